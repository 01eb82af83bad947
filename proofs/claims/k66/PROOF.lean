import PyProof.Rows.All
import Wide.All
import OpenK.AllK
import Wide.FinOn
import KE.DataCmp
import KE.DataEq
import KE.DataFind
import KE.DataMinMax
import KE.DataAny
import KE.DataIsa
import KE.SortData
import PyProof.Rows.SetFrom
import HandS.Base
import HandS.Call
import HandS.List
import HandS.Wide
import HandS.Flow
import HandS.Exc
import HandS.ExcOwn
import HandS.CallSlots
import HandS.Comp
import HandS.Words
import HandS.WordsExc
import HandS.Defaults
import HandS.TupAny
import HandS.Iter
import HandS.Zip
import HandS.Rev
import HandS.RevRange
import HandS.Conv
import HandS.TryOnly
import PyProof.MinMaxWalk
import PyProof.WalkInts
import HandS.Strs
import HandS.Gcd
import HandS.SortKw
import KE.KIndexWalk
import KE.DatumIndex
import HandS.IsInst
import KE.KTupSum
import KE.KIndexOf
import PyProof.EnumIter
import HandS.Head0
import HandS.Head1
import HandS.Head2
import HandS.HeadEnd
import HandS.HeadHook1
import HandS.HeadHook2
import KE.DatumOrd
import KE.KStateDown
import HandS.Ends
import HandS.More
import PySem.Challenge.RW_cornwright_k66_all_small_ships
set_option Elab.async false
set_option linter.all false
set_option maxRecDepth 100000
set_option autoImplicit false
set_option maxHeartbeats 0
section
namespace Cw
open PySem
abbrev D := PyData

inductive BOp | add | sub | mul | fdiv | mod | pow
  deriving DecidableEq, Repr
inductive COp | eq | ne | lt | le | gt | ge | isn | ntn | inn | nin
  deriving DecidableEq, Repr
inductive Ty | int | bool | str | list | tuple
  deriving DecidableEq, Repr
inductive Bi | len | int | list | tuple | sum | min1 | max1 | sorted | all | any | abs | min2 | max2 | min3 | max3 | max4
  deriving DecidableEq, Repr
inductive Mt | index | count
  deriving DecidableEq, Repr
/-- a target -/
inductive Tg | nm (i : Nat) | tup (ts : List Tg)

inductive ME
  | var (i : Nat)
  | con (d : D)
  | tup (es : List ME)
  | lst (es : List ME)
  | bin (op : BOp) (a b : ME)
  | lrep (es : List ME) (b : ME)
  | neg (a : ME)
  | cmp (op : COp) (a b : ME)
  | chain (p q : COp) (a b c : ME)
  | and (a b : ME)
  | or (a b : ME)
  | not (a : ME)
  | ite (c a b : ME)
  | idx (a i : ME)
  | sidx (i : Nat) (e : ME)
  | slc (a : ME) (lo hi : Option ME)
  | call (f : Nat) (es : List ME)
  | bi (b : Bi) (es : List ME)
  | isa (a : ME) (ts : List Ty)
  | mt (m : Mt) (a : ME) (es : List ME)
  | comp (elt : ME) (t : Tg) (it : ME) (c : Option ME)
  | comp2 (elt : ME) (t : Tg) (it : ME) (c : Option ME) (t1 : Tg) (it1 : ME) (c1 : Option ME)
  | rng (a b : ME)
  | enum (a : ME)
  | zip (a b : ME)
  | rev (a : ME)
  | lens (a : ME)
  | maxd (a : ME) (k : Int)
  | gcd (x : Str) (a b : ME)

inductive Md | look | keep (is : List Nat) | io (is : List Nat)
inductive MS
  | asg (i k : Nat) (md : Md) (e : ME)
  | asgT (is : List Nat) (md : Md) (e : ME)
  | par (i j : Nat) (a b : ME)
  | set (i : Nat) (k : ME) (md : Md) (e : ME)
  | aug (i : Nat) (op : BOp) (md : Md) (e : ME)
  | augS (i : Nat) (k : ME) (op : BOp) (md : Md) (e : ME)
  | app (i : Nat) (md : Md) (e : ME)
  | exp (md : Md) (e : ME)
  | ife (md : Md) (c : ME) (a b : List MS)
  | for (t : Tg) (md : Md) (it : ME) (body : List MS)
  | whl (md : Md) (c : ME) (body : List MS)
  | ret (k : Nat) (md : Md) (e : ME)
  | retv (i : Nat)
  | brk
  | cnt
  | pas
  | bot

def LIM : Nat := 16777216
def imm : D → Bool
  | .none | .bool _ | .int _ | .str _ => true
  | .tuple xs => immAll xs
  | _ => false
where immAll : List D → Bool
  | [] => true
  | x :: xs => imm x && immAll xs
def isMut : D → Bool
  | .list _ => true
  | .dict _ => true
  | _ => false
/-- a mutable thing whose items are not -/
def shal : D → Bool
  | .list xs => xs.all imm
  | .dict kvs => kvs.all fun p => imm p.2
  | d => imm d
def isInt : D → Option Int
  | .int i => some i
  | _ => none
def isBl : D → Option Bool
  | .bool b => some b
  | _ => none
def deepOk (a b : D) : Bool := decide (min a.depth b.depth ≤ 60)
def eqD (a b : D) : Option Bool := if a.plain && b.plain && deepOk a b then some (PyData.eqv a b) else none
def isNon : D → Bool
  | .none => true
  | _ => false
def ltD (a b : D) : Option Bool := if PySem.W.alike a b && !isNon a && deepOk a b then some (PySem.W.dataLt a b) else none
def mulOk (i j : Int) : Bool := decide ((-(2 ^ 64) < i ∧ i < 2 ^ 64) ∨ (-(2 ^ 64) < j ∧ j < 2 ^ 64) ∨ i.natAbs.log2 + j.natAbs.log2 < 1000000)
def divOk (j : Int) : Bool := decide (0 < j ∧ j.natAbs.log2 < 9000)
def binD : BOp → D → D → Option D
  | .add, .int a, .int b => some (.int (a + b))
  | .add, .str a, .str b => if a.length + b.length ≤ LIM then some (.str (a ++ b)) else none
  | .add, .list a, .list b => if a.length + b.length ≤ LIM then some (.list (a ++ b)) else none
  | .add, .tuple a, .tuple b => if a.length + b.length ≤ LIM then some (.tuple (a ++ b)) else none
  | .sub, .int a, .int b => some (.int (a - b))
  | .mul, .int a, .int b => if mulOk a b then some (.int (a * b)) else none
  | .fdiv, .int a, .int b => if divOk b then some (.int (a / b)) else none
  | .mod, .int a, .int b => if 0 < b then some (.int (a % b)) else none
  | .pow, .int a, .int b => if 0 ≤ b ∧ b ≤ 1000000 ∧ a.natAbs < 2 ^ 64 then some (.int (a ^ b.toNat)) else none
  | _, _, _ => none
def keyOf : D → Option (Sum Int Str)
  | .int i => some (.inl i)
  | .str s => some (.inr s)
  | _ => none
def dictGet (kvs : List (D × D)) (k : D) : Option D :=
  match keyOf k with
  | some q => (kvs.find? fun p => decide (keyOf p.1 = some q)).map (·.2)
  | none => none
def inD (x c : D) : Option Bool :=
  match c with
  | .list xs => if PyData.plainAll xs && x.plain && deepOk x c then some (xs.any fun y => PyData.eqv y x) else none
  | .tuple xs => if PyData.plainAll xs && x.plain && deepOk x c then some (xs.any fun y => PyData.eqv y x) else none
  | .dict kvs => if (keyOf x).isSome then some (dictGet kvs x).isSome else none
  | _ => none
def cmpD : COp → D → D → Option Bool
  | .eq, a, b => eqD a b
  | .ne, a, b => (eqD a b).map (!·)
  | .lt, a, b => ltD a b
  | .gt, a, b => ltD b a
  | .le, a, b => (ltD b a).map (!·)
  | .ge, a, b => (ltD a b).map (!·)
  | .isn, a, b => if isNon b then some (isNon a) else none
  | .ntn, a, b => if isNon b then some (!isNon a) else none
  | .inn, a, b => inD a b
  | .nin, a, b => (inD a b).map (!·)
def idxD : D → D → Option D
  | .list xs, .int i => L2.atI xs i
  | .tuple xs, .int i => L2.atI xs i
  | .dict kvs, k => dictGet kvs k
  | .str s, .int i => if s.length ≤ LIM then (L2.atI s.cps.toList i).map fun c => .str ⟨#[c]⟩ else none
  | _, _ => none
def cutL (xs : List D) (lo hi : Option Int) : List D := (xs.drop (HT.sIx xs.length 0 lo)).take (HT.sIx xs.length xs.length hi - HT.sIx xs.length 0 lo)
def slcD : D → Option Int → Option Int → Option D
  | .list xs, lo, hi => some (.list (cutL xs lo hi))
  | .tuple xs, lo, hi => some (.tuple (cutL xs lo hi))
  | _, _, _ => none
def truthD : D → Option Bool
  | .none => some false
  | .bool b => some b
  | .int n => some (n != 0)
  | .str x => if x.length ≤ LIM then some ((x.length : Int) != 0) else none
  | .list xs => some (!xs.isEmpty)
  | .tuple xs => some (!xs.isEmpty)
  | .dict kvs => some (!kvs.isEmpty)
def lenD : D → Option Int
  | .list xs => some xs.length
  | .tuple xs => some xs.length
  | .dict kvs => some kvs.length
  | .str x => if x.length ≤ LIM then some x.length else none
  | _ => none
/-- what a walk over it yields -/
def itemsD : D → Option (List D)
  | .list xs => some xs
  | .tuple xs => some xs
  | _ => none
def isaTy : Ty → D → Bool
  | .int, d => d.isInt
  | .bool, d => d.isBool
  | .str, d => d.isStr
  | .list, d => d.isList
  | .tuple, d => d.isTuple
def intsD : List D → Option (List Int)
  | [] => some []
  | .int i :: xs => (intsD xs).map (i :: ·)
  | _ => none
def alikeAllB (xs : List D) : Bool := xs.all (fun x => xs.all fun y => PySem.W.alike x y) && xs.all (fun x => !isNon x) && decide (PyData.depthAll xs ≤ 60)
def sortL (xs : List D) : List D := xs.mergeSort (PySem.W.dataLe false fun d : D => d)
def isTupNE : D → Bool
  | .tuple (_ :: _) => true
  | _ => false
def isTup : D → Bool
  | .tuple _ => true
  | _ => false
def sortOk (xs : List D) : Bool := xs.all (fun x => xs.all fun y => PySem.W.alike x y) && (xs.all isTupNE || xs.all fun x => !isNon x && !isTup x) && decide (PyData.depthAll xs ≤ 60)
def bls : List D → Option (List Bool)
  | [] => some []
  | .bool i :: xs => (bls xs).map (i :: ·)
  | _ => none
def big2 (i j : Int) : Int := if j > i then j else i
def sml2 (i j : Int) : Int := if j < i then j else i
def biD : Bi → List D → Option D
  | .len, [a] => (lenD a).map .int
  | .int, [.int i] => some (.int i)
  | .list, [.list xs] => some (.list xs)
  | .list, [.tuple xs] => some (.list xs)
  | .tuple, [.list xs] => some (.tuple xs)
  | .tuple, [.tuple xs] => some (.tuple xs)
  | .sum, [.list xs] => (intsD xs).map fun ns => .int ns.sum
  | .sum, [.tuple xs] => (intsD xs).map fun ns => .int ns.sum
  | .min1, [.list (x :: xs)] => if alikeAllB (x :: xs) then some (PySem.W.minD x xs) else none
  | .max1, [.list (x :: xs)] => if alikeAllB (x :: xs) then some (PySem.W.maxD x xs) else none
  | .min1, [.tuple (x :: xs)] => if alikeAllB (x :: xs) then some (PySem.W.minD x xs) else none
  | .max1, [.tuple (x :: xs)] => if alikeAllB (x :: xs) then some (PySem.W.maxD x xs) else none
  | .sorted, [.list xs] => if sortOk xs then some (.list (sortL xs)) else none
  | .all, [.list xs] => (bls xs).map fun bs => .bool (bs.all id)
  | .any, [.list xs] => (bls xs).map fun bs => .bool (bs.any id)
  | .abs, [.int i] => some (.int (if i < 0 then -i else i))
  | .min2, [.int i, .int j] => some (.int (if j < i then j else i))
  | .max2, [.int i, .int j] => some (.int (if j > i then j else i))
  | .min3, [.int i, .int j, .int k] => some (.int (sml2 (sml2 i j) k))
  | .max3, [.int i, .int j, .int k] => some (.int (big2 (big2 i j) k))
  | .max4, [.int i, .int j, .int k, .int l] => some (.int (big2 (big2 (big2 i j) k) l))
  | _, _ => none
def seqD : D → Option D
  | .list xs => some (.list xs)
  | _ => none
/-- the place of a whole number, how often it stands there -/
def mtI : Mt → List Int → Int → Option D
  | .index, ns, k => if ns.contains k then some (.int (ns.idxOf k : Nat)) else none
  | .count, ns, k => some (.int (ns.count k : Nat))
def mtD : Mt → D → List D → Option D
  | m, .list xs, [.int k] => (intsD xs).bind fun ns => mtI m ns k
  | _, _, _ => none
/-- how many unlike ones -/
def ddp (ns : List Int) : List Int := ns.foldl PyProof.Rows.step_dedup []
def lensI (ns : List Int) : Option Int := if Nat.ble ns.length 4000 then some ((ddp ns).length : Nat) else none
def lensD : D → Option D
  | .list xs => (intsD xs).bind fun ns => (lensI ns).map .int
  | .tuple xs => (intsD xs).bind fun ns => (lensI ns).map .int
  | _ => none
def maxdD (k : Int) : D → Option D
  | .list [] => some (.int k)
  | .list (x :: xs) => if alikeAllB (x :: xs) then some (PySem.W.maxD x xs) else none
  | _ => none
def gcdI (a b : Int) : Int := (Nat.gcd a.natAbs b.natAbs : Nat)
def gcdD : D → D → Option D
  | .int a, .int b => some (.int (gcdI a b))
  | _, _ => none

/-- a slot: empty, a value, a list of its own, the caller's list to be changed, a list that may be looked into -/
inductive Slot | non | val (d : D) | own (k : Nat) (d : D) | mut (d : D) | prt (d : D)
abbrev Env := List Slot
structure Ex where
  cls : Nat
  val : D
inductive Out (α : Type)
  | ok (a : α) (r : Env)
  | exc (x : Ex) (r : Env)
  | bad
def Out.bind {α β : Type} (o : Out α) (f : α → Env → Out β) : Out β :=
  match o with
  | .ok a r => f a r
  | .exc x r => .exc x r
  | .bad => .bad
def lift {α : Type} (o : Option α) (r : Env) : Out α :=
  match o with
  | some a => .ok a r
  | none => .bad
/-- a call's outcome: the value, the changed lists behind -/
inductive OutC
  | ok (d : D) (os : List D)
  | exc (x : Ex) (os : List D)
  | bad
def getV (r : Env) (i : Nat) : Option D :=
  match r[i]? with
  | some (.val d) => some d
  | _ => none
/-- any slot, to be looked into -/
def getA (r : Env) (i : Nat) : Option D :=
  match r[i]? with
  | some (.val d) => some d
  | some (.own 1 d) => some d
  | some (.mut d) => some d
  | some (.prt d) => some d
  | _ => none
def getM (r : Env) (i : Nat) : Option D :=
  match r[i]? with
  | some (.own 1 d) => some d
  | some (.mut d) => some d
  | _ => none
/-- a changed thing back into its slot -/
def putM (r : Env) (i : Nat) (d : D) : Env :=
  match r[i]? with
  | some (.own 1 _) => r.set i (.own 1 d)
  | some (.mut _) => r.set i (.mut d)
  | _ => r
def frz (r : Env) : List Nat → Env
  | [] => r
  | i :: is => match r[i]? with
    | some (.own _ d) => frz (r.set i (.val d)) is
    | _ => frz r is
def frzS : Slot → Slot
  | .own _ d => .val d
  | .mut d => .val d
  | .prt _ => .non
  | x => x
def prtS : Slot → Slot
  | .own _ d => .prt d
  | .mut d => .prt d
  | x => x
def frzA (r : Env) : Env := r.map frzS
def prtA (r : Env) : Env := r.map prtS
/-- the lists of a frame have only unchangeable items -/
def shalE (r : Env) : Bool := r.all fun
  | .own _ d => shal d
  | .mut d => shal d
  | _ => true
/-- values as they were, lists as they are -/
def mixE : Env → Env → Env
  | .val d :: r, _ :: q => .val d :: mixE r q
  | .non :: r, _ :: q => .non :: mixE r q
  | .prt d :: r, _ :: q => .prt d :: mixE r q
  | _ :: r, x :: q => x :: mixE r q
  | _, q => q
mutual
def asgG : Tg → D → Env → Option Env
  | .nm i, d, r => some (r.set i (.val d))
  | .tup ts, d, r => match d with
    | .tuple ds => asgTs ts ds r
    | _ => none
def asgTs : List Tg → List D → Env → Option Env
  | [], ds, r => match ds with
    | [] => some r
    | _ => none
  | t :: ts, ds, r => match ds with
    | d :: ds => (asgG t d r).bind fun r' => asgTs ts ds r'
    | [] => none
end
mutual
def tgS : Tg → List Nat
  | .nm i => [i]
  | .tup ts => tgSs ts
def tgSs : List Tg → List Nat
  | [] => []
  | t :: ts => tgS t ++ tgSs ts
end
def wipeE (r : Env) : List Nat → Env
  | [] => r
  | v :: vs => (wipeE r vs).set v .non
/-- the slots of a comprehension's own names as they were -/
def unwipeE (r0 r : Env) : List Nat → Env
  | [] => r
  | v :: vs => (unwipeE r0 r vs).set v (r0.getD v .non)
/-- no list that is changed stands at these slots -/
def okW (r : Env) (vs : List Nat) : Bool := vs.all fun v => match r[v]? with
  | some (.own _ _) => false
  | some (.mut _) => false
  | _ => true
inductive Flow | nx | brk | cnt | ret (k : Nat) (d : D)

structure Fn where
  np : Nat
  ns : Nat
  io : List Nat
  fresh : Nat
  body : List MS

def loopC (f : D → Env → Out (Option D)) : List D → List D → Env → Out (List D)
  | [], acc, r => .ok acc r
  | x :: xs, acc, r => (f x r).bind fun o r' => match o with
    | some y => if acc.length < LIM then loopC f xs (acc ++ [y]) r' else .bad
    | none => loopC f xs acc r'
def loopC2 (f : D → List D → Env → Out (List D)) : List D → List D → Env → Out (List D)
  | [], acc, r => .ok acc r
  | x :: xs, acc, r => (f x acc r).bind fun acc' r' => loopC2 f xs acc' r'
def loopF (f : D → Env → Out Flow) : List D → Env → Out Flow
  | [], r => .ok .nx r
  | x :: xs, r => (f x r).bind fun o r' => match o with
    | .nx => loopF f xs r'
    | .cnt => loopF f xs r'
    | .brk => .ok .nx r'
    | .ret k d => .ok (.ret k d) r'
def loopW (t : Env → Out Bool) (f : Env → Out Flow) : Nat → Env → Out Flow
  | 0, _ => .bad
  | n + 1, r => (t r).bind fun b r1 => if b then (f r1).bind fun o r' => match o with
      | .nx => loopW t f n r'
      | .cnt => loopW t f n r'
      | .brk => .ok .nx r'
      | .ret k d => .ok (.ret k d) r'
    else .ok .nx r1
def rangeD (a b : Int) : List D := (List.range (b - a).toNat).map fun i => .int (a + (i : Nat))
/-- the arguments that are handed in to be changed: their slots -/
def ioSlots : List Nat → List ME → Option (List Nat)
  | [], _ => some []
  | i :: is, es => match es[i]? with
    | some (.var j) => (ioSlots is es).map (j :: ·)
    | _ => none
def putMs (r : Env) : List Nat → List D → Env
  | j :: js, d :: ds => putMs (putM r j d) js ds
  | _, _ => r

/-- nothing is let out -/
def Out.noX {α : Type} : Out α → Out α
  | .exc _ _ => .bad
  | o => o
def Out.wiped {α : Type} (o : Out α) (vs : List Nat) : Out α := o.bind fun a r => .ok a (wipeE r vs)
def rngD : D → D → Option D
  | .int i, .int j => if -(2 ^ 62) ≤ i ∧ i < 2 ^ 62 ∧ -(2 ^ 62) ≤ j ∧ j < 2 ^ 62 then some (.list (rangeD i j)) else none
  | _, _ => none
def enumD : D → Option D
  | .list xs => some (.list ((List.range xs.length).map fun i => .tuple [.int (i : Nat), xs.getD i .none]))
  | .tuple xs => some (.list ((List.range xs.length).map fun i => .tuple [.int (i : Nat), xs.getD i .none]))
  | _ => none
def zipD : D → D → Option D
  | .list xs, .list ys => some (.list ((xs.zip ys).map fun p => .tuple [p.1, p.2]))
  | .tuple xs, .tuple ys => some (.list ((xs.zip ys).map fun p => .tuple [p.1, p.2]))
  | .tuple xs, .list ys => some (.list ((xs.zip ys).map fun p => .tuple [p.1, p.2]))
  | .list xs, .tuple ys => some (.list ((xs.zip ys).map fun p => .tuple [p.1, p.2]))
  | _, _ => none
def revD : D → Option D
  | .list xs => some (.list xs.reverse)
  | .tuple xs => some (.list xs.reverse)
  | _ => none
def repD (ds : List D) : D → Option D
  | .int n => if -(2 ^ 63) ≤ n ∧ n < 2 ^ 63 ∧ ds.length * n.toNat ≤ LIM then some (.list (List.replicate n.toNat ds).flatten) else none
  | _ => none
def tru (o : Out D) : Out Bool := o.bind fun x r => lift (truthD x) r
section
variable (T : Nat → Option Fn) (call : Nat → List D → OutC)
mutual
def evE : ME → Env → Out D
  | .var i, r => lift (getV r i) r
  | .con d, r => .ok d r
  | .tup es, r => (evEs es r).bind fun ds r' => if ds.length ≤ LIM then .ok (.tuple ds) r' else .bad
  | .lst es, r => (evEs es r).bind fun ds r' => if ds.length ≤ LIM then .ok (.list ds) r' else .bad
  | .bin op a b, r => (evE a r).bind fun x r1 => (evE b r1).bind fun y r2 => lift (binD op x y) r2
  | .lrep es b, r => (evEs es r).bind fun ds r1 => if ds.length ≤ LIM then (evE b r1).bind fun y r2 => lift (repD ds y) r2 else .bad
  | .neg a, r => (evE a r).bind fun x r1 => lift ((isInt x).map fun i => .int (-i)) r1
  | .cmp op a b, r => (evE a r).bind fun x r1 => (evE b r1).bind fun y r2 => lift ((cmpD op x y).map .bool) r2
  | .chain p q a b c, r => (evE a r).bind fun x r1 => (evE b r1).bind fun y r2 => (lift (cmpD p x y) r2).bind fun k r3 =>
      if k then (evE c r3).bind fun z r4 => lift ((cmpD q y z).map .bool) r4 else .ok (.bool false) r3
  | .and a b, r => (evE a r).bind fun x r1 => (lift (truthD x) r1).bind fun k r2 => if k then evE b r2 else .ok x r2
  | .or a b, r => (evE a r).bind fun x r1 => (lift (truthD x) r1).bind fun k r2 => if k then .ok x r2 else evE b r2
  | .not a, r => (evE a r).bind fun x r1 => lift ((truthD x).map fun k => .bool (!k)) r1
  | .ite c a b, r => (tru (evE c r)).bind fun k r1 => if k then evE a r1 else evE b r1
  | .idx a i, r => (evE a r).bind fun x r1 => (evE i r1).bind fun y r2 => lift (idxD x y) r2
  | .sidx i e, r => (lift (getA r i) r).bind fun _ r0 => (evE e r0).bind fun y r1 => (lift (getA r1 i) r1).bind fun x r2 => lift (idxD x y) r2
  | .slc a lo hi, r => (evE a r).bind fun x r1 => (evO lo r1).bind fun l r2 => (evO hi r2).bind fun h r3 => lift (slcD x l h) r3
  | .call f es, r => match T f with
    | none => .bad
    | some fn => match ioSlots fn.io es with
      | none => .bad
      | some js => if !decide js.Nodup then .bad else (evAs fn.io 0 es r).bind fun ds r1 => match call f ds with
        | .ok d os => if os.length = js.length then .ok d (putMs r1 js os) else .bad
        | .exc x os => if os.length = js.length then .exc x (putMs r1 js os) else .bad
        | .bad => .bad
  | .bi b es, r => (evEs es r).bind fun ds r1 => lift (biD b ds) r1
  | .isa a ts, r => (evE a r).bind fun x r1 => if x.plain then .ok (.bool (ts.any fun t => isaTy t x)) r1 else .bad
  | .mt m a es, r => (evE a r).bind fun x r1 => (lift (seqD x) r1).bind fun _ r1 => (evEs es r1).bind fun ds r2 => lift (mtD m x ds) r2
  | .comp elt t it c, r => ((evE it r).bind fun x r1 => lift (itemsD x) r1).bind fun xs r1 =>
      if okW r1 (tgS t) then (loopC (fun x rr => (match asgG t x rr with
        | none => .bad
        | some r2 => (evC c r2).bind fun k r3 => if k then (evE elt r3).bind fun y r4 => .ok (some y) r4 else .ok none r3 : Out (Option D)).wiped (tgS t)) xs [] (wipeE r1 (tgS t))).noX.bind fun ys r' =>
          .ok (.list ys) (unwipeE r1 r' (tgS t)) else .bad
  | .comp2 elt t it c t1 it1 c1, r => ((evE it r).bind fun x r1 => lift (itemsD x) r1).bind fun xs r1 =>
      if okW r1 (tgS t ++ tgS t1) then (loopC2 (fun x acc rr => (match asgG t x rr with
        | none => .bad
        | some r2 => (evC c r2).bind fun k r3 => if k then ((evE it1 r3).bind fun x r1 => lift (itemsD x) r1).bind fun zs r4 =>
            loopC (fun w rq => (match asgG t1 w rq with
              | none => .bad
              | some r5 => (evC c1 r5).bind fun k1 r6 => if k1 then (evE elt r6).bind fun y r7 => .ok (some y) r7 else .ok none r6 : Out (Option D)).wiped (tgS t1)) zs acc (wipeE r4 (tgS t1))
          else .ok acc r3 : Out (List D)).wiped (tgS t ++ tgS t1)) xs [] (wipeE r1 (tgS t ++ tgS t1))).noX.bind fun ys r' =>
          .ok (.list ys) (unwipeE r1 r' (tgS t ++ tgS t1)) else .bad
  | .rng a b, r => (evE a r).bind fun x r1 => (evE b r1).bind fun y r2 => lift (rngD x y) r2
  | .enum a, r => (evE a r).bind fun x r1 => lift (enumD x) r1
  | .zip a b, r => (evE a r).bind fun x r1 => (evE b r1).bind fun y r2 => lift (zipD x y) r2
  | .rev a, r => (evE a r).bind fun x r1 => lift (revD x) r1
  | .lens a, r => (evE a r).bind fun x r1 => lift (lensD x) r1
  | .maxd a k, r => (evE a r).bind fun x r1 => lift (maxdD k x) r1
  | .gcd _ a b, r => (evE a r).bind fun x r1 => (evE b r1).bind fun y r2 => lift (gcdD x y) r2
def evEs : List ME → Env → Out (List D)
  | [], r => .ok [] r
  | e :: es, r => (evE e r).bind fun d r1 => (evEs es r1).bind fun ds r2 => .ok (d :: ds) r2
/-- arguments: those at the places io are handed over as they are -/
def evAs (io : List Nat) : Nat → List ME → Env → Out (List D)
  | _, [], r => .ok [] r
  | n, e :: es, r => if io.contains n then
      match e with
      | .var j => (lift (getM r j) r).bind fun _ r0 => (evAs io (n + 1) es r0).bind fun ds r2 => match getM r2 j with
        | some d => .ok (d :: ds) r2
        | none => .bad
      | _ => .bad
    else (evE e r).bind fun d r1 => (evAs io (n + 1) es r1).bind fun ds r2 => .ok (d :: ds) r2
def evO : Option ME → Env → Out (Option Int)
  | none, r => .ok none r
  | some e, r => (evE e r).bind fun x r1 => match x with
    | .int i => .ok (some i) r1
    | _ => .bad
/-- a comprehension's test -/
def evC : Option ME → Env → Out Bool
  | none, r => .ok true r
  | some e, r => tru (evE e r)
end
/-- the same frame behind it -/
def Out.as {α : Type} (o : Out α) (r : Env) : Out α :=
  match o with
  | .ok a _ => .ok a r
  | .exc x _ => .exc x r
  | .bad => .bad
/-- a test -/
def evT (md : Md) (e : ME) (r : Env) : Out Bool :=
  match md with
  | .look => (tru (evE T call e (frzA r))).as r
  | .keep is => (tru (evE T call e (prtA (frz r is)))).as (frz r is)
  | .io is => tru (evE T call e (frz r is))
/-- a value; k = 1: a list is new -/
def evM (k : Nat) (md : Md) (e : ME) (r : Env) : Out D :=
  match md with
  | .look => ((evE T call e (frzA r)).as r).bind fun d r1 => if imm d || (k == 1 && shal d) then .ok d r1 else .bad
  | .keep is => (evE T call e (prtA (frz r is))).as (frz r is)
  | .io is => (evE T call e (frz r is)).bind fun d r1 => if k == 1 && isMut d then (if shalE r1 then .ok d (mixE (frz r is) r1) else .bad) else .ok d r1
/-- what a loop walks -/
def evI (md : Md) (e : ME) (r : Env) : Out (List D) :=
  match md with
  | .look => ((evE T call e (frzA r)).bind fun x r1 => lift (itemsD x) r1).as r
  | .keep is => ((evE T call e (prtA (frz r is))).bind fun x r1 => lift (itemsD x) r1).as (frz r is)
  | .io is => (evE T call e (frz r is)).bind fun x r1 => lift (itemsD x) r1
def setD (d : D) (k v : D) : Option D :=
  match d, k with
  | .list xs, .int i => (L2.ixN xs.length i).map fun j => .list (xs.set j v)
  | _, _ => none
def inplD : BOp → D → D → Option D
  | .add, .int a, .int b => some (.int (a + b))
  | .sub, .int a, .int b => some (.int (a - b))
  | _, _, _ => none
def appD : D → D → Option D
  | .list xs, v => if xs.length < LIM then some (.list (xs ++ [v])) else none
  | _, _ => none
mutual
def evS : MS → Env → Out Flow
  | .asg i k md e, r => (evM T call k md e r).bind fun d r1 => .ok .nx (r1.set i (if k == 1 && isMut d then .own 1 d else .val d))
  | .asgT is md e, r => (evM T call 0 md e r).bind fun d r1 => (lift (asgG (.tup (is.map .nm)) d r1) r1).bind fun r2 _ => .ok .nx r2
  | .par i j a b, r => ((evEs T call [a, b] (prtA r)).as r).bind fun ds r1 => match ds with
      | [x, y] => .ok .nx ((r1.set i (.val x)).set j (.val y))
      | _ => .bad
  | .set i kx md e, r => (evM T call 0 md e r).bind fun v r1 => (lift (getM r1 i) r1).bind fun _ r2 => (evM T call 0 (.keep []) kx r2).bind fun k r3 =>
      (lift (getM r3 i) r3).bind fun d r4 => (lift (setD d k v) r4).bind fun d' r5 => .ok .nx (putM r5 i d')
  | .aug i op md e, r => (lift (getV r i) r).bind fun x r1 => (evM T call 0 md e r1).bind fun y r2 => (lift (inplD op x y) r2).bind fun z r3 => .ok .nx (r3.set i (.val z))
  | .augS i kx op md e, r => (lift (getM r i) r).bind fun _ r => (evM T call 0 (.keep []) kx r).bind fun k r1 => (lift (getM r1 i) r1).bind fun d r2 => (lift (idxD d k) r2).bind fun x r3 =>
      (evM T call 0 md e r3).bind fun y r4 => (lift (inplD op x y) r4).bind fun z r5 => (lift (getM r5 i) r5).bind fun d2 r6 =>
        (lift (setD d2 k z) r6).bind fun d' r7 => .ok .nx (putM r7 i d')
  | .app i md e, r => (lift (getM r i) r).bind fun _ r => (evM T call 0 md e r).bind fun v r1 => (lift (getM r1 i) r1).bind fun d r2 => (lift (appD d v) r2).bind fun d' r3 => .ok .nx (putM r3 i d')
  | .exp md e, r => (evM T call 0 md e r).bind fun _ r1 => .ok .nx r1
  | .ife md c a b, r => (evT T call md c r).bind fun k r1 => if k then evSs a r1 else evSs b r1
  | .for t md it body, r => (evI T call md it r).bind fun xs r1 =>
      loopF (fun y rr => match asgG t y rr with
        | none => .bad
        | some r2 => evSs body r2) xs r1
  | .whl md c body, r => loopW (fun rr => evT T call md c rr) (fun rr => evSs body rr) 100000 r
  | .ret k md e, r => (evM T call k md e r).bind fun d r1 => .ok (.ret k d) r1
  | .retv i, r => match r[i]? with
    | some (.own 1 d) => .ok (.ret 1 d) r
    | some (.val d) => .ok (.ret 0 d) r
    | _ => .bad
  | .brk, r => .ok .brk r
  | .cnt, r => .ok .cnt r
  | .pas, r => .ok .nx r
  | .bot, _ => .bad
def evSs : List MS → Env → Out Flow
  | [], r => .ok .nx r
  | s :: ss, r => (evS s r).bind fun o r1 => match o with
    | .nx => evSs ss r1
    | o => .ok o r1
end
end
def startE (fn : Fn) (ds : List D) : Env := ((List.range ds.length).zip ds).map (fun p => if fn.io.contains p.1 then Slot.mut p.2 else Slot.val p.2) ++ List.replicate (fn.ns - ds.length) .non
def outsE (r : Env) : List Nat → Option (List D)
  | [] => some []
  | i :: is => match r[i]? with
    | some (.mut d) => (outsE r is).map (d :: ·)
    | _ => none
def finE (fn : Fn) : Out Flow → OutC
  | .ok .nx r => match outsE r fn.io with
    | some os => .ok .none os
    | none => .bad
  | .ok (.ret k d) r => if fn.fresh == 0 || k == 1 || imm d then match outsE r fn.io with
    | some os => .ok d os
    | none => .bad else .bad
  | .exc x r => match outsE r fn.io with
    | some os => .exc x os
    | none => .bad
  | _ => .bad
def callF (T : Nat → Option Fn) : Nat → Nat → List D → OutC
  | 0, _, _ => .bad
  | n + 1, f, ds => match T f with
    | none => .bad
    | some fn => if ds.length = fn.np then finE fn (evSs T (callF T n) fn.body (startE fn ds)) else .bad
end Cw
end

section
namespace Cw
open PySem PySem.Spec PyProof.Rows L2

abbrev Fr := PySem.W.Frag
def LstAt (K : Fr) (H : Hp) (S : Addr → Prop) (a : Addr) (xs : List V) : Prop :=
  (Rd H a (.lst xs) ∧ ¬ S a) ∨ ∃ (o : Obj) (its : Array Value) (n : Nat), K.lookup a = some o ∧ o.cls = .type "list" ∧ o.dict = none ∧ o.data = .seq its n ∧ its.size ≤ sizeLine ∧ Vals xs its.toList
def TupAt (K : Fr) (H : Hp) (S : Addr → Prop) (a : Addr) (xs : List V) : Prop :=
  (Rd H a (.tup xs) ∧ ¬ S a) ∨ ∃ (o : Obj) (its : Array Value) (n : Nat), K.lookup a = some o ∧ o.cls = .type "tuple" ∧ o.data = .seq its n ∧ its.size ≤ sizeLine ∧ Vals xs its.toList
mutual
inductive Rep (K : Fr) (H : Hp) (S : Addr → Prop) : V → D → Prop
  | non : Rep K H S .non .none
  | bl (b : Bool) : Rep K H S (.bl b) (.bool b)
  | int (i : Int) : Rep K H S (.int i) (.int i)
  | str (x : Str) : Rep K H S (.str x) (.str x)
  | lst {a : Addr} {xs : List V} {ds : List D} : LstAt K H S a xs → Reps K H S xs ds → Rep K H S (.ref a) (.list ds)
  | tup {a : Addr} {xs : List V} {ds : List D} : TupAt K H S a xs → Reps K H S xs ds → Rep K H S (.ref a) (.tuple ds)
inductive Reps (K : Fr) (H : Hp) (S : Addr → Prop) : List V → List D → Prop
  | nil : Reps K H S [] []
  | cons {v : V} {vs : List V} {d : D} {ds : List D} : Rep K H S v d → Reps K H S vs ds → Reps K H S (v :: vs) (d :: ds)
end
def Keep (M : Addr → Prop) (H H' : Hp) : Prop := (∀ a o, H a = some o → ¬ M a → H' a = some o) ∧ ∀ a, H a ≠ none → H' a ≠ none
theorem Keep.refl {M : Addr → Prop} {H : Hp} : Keep M H H := ⟨fun _ _ e _ => e, fun _ e => e⟩
theorem Keep.trans {M : Addr → Prop} {H H1 H2 : Hp} (a : Keep M H H1) (b : Keep M H1 H2) : Keep M H H2 := ⟨fun x o e n => b.1 x o (a.1 x o e n) n, fun x e => b.2 x (a.2 x e)⟩
theorem Keep.weak {M M' : Addr → Prop} {H H1 : Hp} (a : Keep M H H1) (h : ∀ x, M x → M' x) : Keep M' H H1 := ⟨fun x o e n => a.1 x o e (fun z => n (h x z)), a.2⟩
theorem Keep.new {M : Addr → Prop} {H : Hp} {p : Addr} {o : HO} (h : H p = none) : Keep M H (upd H p o) :=
  ⟨fun a u e _ => by rw [upd_ne (ne_of_none e h)]; exact e, fun a e => by
    by_cases q : a = p
    · rw [q, upd_same]; exact fun z => nomatch z
    · rw [upd_ne q]; exact e⟩
theorem Keep.put {M : Addr → Prop} {H : Hp} {p : Addr} {o : HO} (h : M p) : Keep M H (upd H p o) :=
  ⟨fun a u e n => by rw [upd_ne (fun z => by subst z; exact n h)]; exact e, fun a e => by
    by_cases q : a = p
    · rw [q, upd_same]; exact fun z => nomatch z
    · rw [upd_ne q]; exact e⟩
theorem Keep.same {M : Addr → Prop} {H H' : Hp} (h : Same H H') : Keep M H H' := ⟨fun a o e _ => h a o e, fun a e => by
  cases q : H a with
  | none => exact absurd q e
  | some o => rw [h a o q]; exact fun z => nomatch z⟩
section
variable {K : Fr} {H H' : Hp} {S S' M : Addr → Prop}
theorem rd_some {a : Addr} {u : HO} (h : Rd H a u) : ∃ o, H a = some o := by
  rcases h with h | ⟨o, h⟩ <;> exact ⟨_, h⟩
theorem rd_keep {a : Addr} {u : HO} (h : Rd H a u) (k : Keep M H H') (n : ¬ M a) : Rd H' a u := by
  rcases h with h | ⟨o, h⟩
  · exact .inl (k.1 _ _ h n)
  · exact .inr ⟨o, k.1 _ _ h n⟩
theorem LstAt.sq {a : Addr} {xs : List V} (h : LstAt K H S a xs) : SqL K H a xs := by
  rcases h with ⟨h, _⟩ | h
  · exact .inl h
  · exact .inr h
theorem TupAt.sq {a : Addr} {xs : List V} (h : TupAt K H S a xs) : SqT K H a xs := by
  rcases h with ⟨h, _⟩ | h
  · exact .inl h
  · exact .inr h
theorem LstAt.keep {a : Addr} {xs : List V} (h : LstAt K H S a xs) (k : Keep M H H') (m : ∀ a, M a → S a) : LstAt K H' S a xs := by
  rcases h with ⟨h, n⟩ | h
  · exact .inl ⟨rd_keep h k fun z => n (m _ z), n⟩
  · exact .inr h
theorem TupAt.keep {a : Addr} {xs : List V} (h : TupAt K H S a xs) (k : Keep M H H') (m : ∀ a, M a → S a) : TupAt K H' S a xs := by
  rcases h with ⟨h, n⟩ | h
  · exact .inl ⟨rd_keep h k fun z => n (m _ z), n⟩
  · exact .inr h
theorem LstAt.mono {a : Addr} {xs : List V} (h : LstAt K H S a xs) (m : ∀ a, S' a → S a ∨ H a = none) : LstAt K H S' a xs := by
  rcases h with ⟨h, n⟩ | h
  · refine .inl ⟨h, fun z => ?_⟩
    rcases m a z with q | q
    · exact n q
    · obtain ⟨o, e⟩ := rd_some h
      rw [q] at e; cases e
  · exact .inr h
theorem TupAt.mono {a : Addr} {xs : List V} (h : TupAt K H S a xs) (m : ∀ a, S' a → S a ∨ H a = none) : TupAt K H S' a xs := by
  rcases h with ⟨h, n⟩ | h
  · refine .inl ⟨h, fun z => ?_⟩
    rcases m a z with q | q
    · exact n q
    · obtain ⟨o, e⟩ := rd_some h
      rw [q] at e; cases e
  · exact .inr h
mutual
theorem Rep.keep {v : V} {d : D} : Rep K H S v d → Keep M H H' → (∀ a, M a → S a) → Rep K H' S v d
  | .non, _, _ => .non
  | .bl b, _, _ => .bl b
  | .int i, _, _ => .int i
  | .str x, _, _ => .str x
  | .lst h r, k, m => .lst (h.keep k m) (r.keep k m)
  | .tup h r, k, m => .tup (h.keep k m) (r.keep k m)
theorem Reps.keep {vs : List V} {ds : List D} : Reps K H S vs ds → Keep M H H' → (∀ a, M a → S a) → Reps K H' S vs ds
  | .nil, _, _ => .nil
  | .cons h r, k, m => .cons (h.keep k m) (r.keep k m)
end
mutual
theorem Rep.mono {v : V} {d : D} : Rep K H S v d → (∀ a, S' a → S a ∨ H a = none) → Rep K H S' v d
  | .non, _ => .non
  | .bl b, _ => .bl b
  | .int i, _ => .int i
  | .str x, _ => .str x
  | .lst h r, m => .lst (h.mono m) (r.mono m)
  | .tup h r, m => .tup (h.mono m) (r.mono m)
theorem Reps.mono {vs : List V} {ds : List D} : Reps K H S vs ds → (∀ a, S' a → S a ∨ H a = none) → Reps K H S' vs ds
  | .nil, _ => .nil
  | .cons h r, m => .cons (h.mono m) (r.mono m)
end
mutual
theorem Rep.imm {v : V} {d : D} : Rep K H S v d → imm d = true → (∀ a, S' a → S a ∨ ∃ xs, H a = some (.lst xs)) → Rep K H S' v d
  | .non, _, _ => .non
  | .bl b, _, _ => .bl b
  | .int i, _, _ => .int i
  | .str x, _, _ => .str x
  | .lst h r, i, _ => by simp [Cw.imm] at i
  | .tup h r, i, m => by
    refine .tup ?_ (r.imm (by simpa [Cw.imm] using i) m)
    rcases h with ⟨h, n⟩ | h
    · refine .inl ⟨h, fun z => ?_⟩
      rcases m _ z with q | ⟨xs, q⟩
      · exact n q
      · rcases h with h | ⟨o, h⟩ <;> (rw [q] at h; cases h)
    · exact .inr h
theorem Reps.imm {vs : List V} {ds : List D} : Reps K H S vs ds → imm.immAll ds = true → (∀ a, S' a → S a ∨ ∃ xs, H a = some (.lst xs)) → Reps K H S' vs ds
  | .nil, _, _ => .nil
  | .cons h r, i, m => by
    simp only [Cw.imm.immAll, Bool.and_eq_true] at i
    exact .cons (h.imm i.1 m) (r.imm i.2 m)
end
theorem Reps.length {vs : List V} {ds : List D} : Reps K H S vs ds → vs.length = ds.length
  | .nil => rfl
  | .cons _ r => by simp [r.length]
theorem Reps.get {vs : List V} {ds : List D} {i : Nat} {d : D} : Reps K H S vs ds → ds[i]? = some d → ∃ v, vs[i]? = some v ∧ Rep K H S v d := by
  intro h
  induction vs generalizing ds i with
  | nil => cases h; intro e; simp at e
  | cons v vs ih =>
    cases h with
    | cons r rs =>
      cases i with
      | zero => intro e; simp at e; subst e; exact ⟨v, rfl, r⟩
      | succ i => intro e; simpa using ih rs (by simpa using e)
theorem Reps.getV {vs : List V} {ds : List D} {i : Nat} {v : V} : Reps K H S vs ds → vs[i]? = some v → ∃ d, ds[i]? = some d ∧ Rep K H S v d := by
  intro h
  induction vs generalizing ds i with
  | nil => intro e; simp at e
  | cons v' vs ih =>
    cases h with
    | cons r rs =>
      cases i with
      | zero => intro e; simp at e; subst e; exact ⟨_, rfl, r⟩
      | succ i => intro e; simpa using ih rs (by simpa using e)
theorem Reps.append {vs ws : List V} {ds es : List D} (h : Reps K H S vs ds) (g : Reps K H S ws es) : Reps K H S (vs ++ ws) (ds ++ es) := by
  induction vs generalizing ds with
  | nil => cases h; exact g
  | cons v vs ih => cases h with | cons r rs => exact .cons r (ih rs)
theorem Reps.take {vs : List V} {ds : List D} (n : Nat) (h : Reps K H S vs ds) : Reps K H S (vs.take n) (ds.take n) := by
  induction vs generalizing ds n with
  | nil => cases h; simp; exact .nil
  | cons v vs ih =>
    cases h with
    | cons r rs => cases n with
      | zero => exact .nil
      | succ n => exact .cons r (ih n rs)
theorem Reps.drop {vs : List V} {ds : List D} (n : Nat) (h : Reps K H S vs ds) : Reps K H S (vs.drop n) (ds.drop n) := by
  induction vs generalizing ds n with
  | nil => cases h; simp; exact .nil
  | cons v vs ih =>
    cases h with
    | cons r rs => cases n with
      | zero => exact .cons r rs
      | succ n => exact ih n rs
theorem Reps.set {vs : List V} {ds : List D} {v : V} {d : D} (i : Nat) (h : Reps K H S vs ds) (g : Rep K H S v d) : Reps K H S (vs.set i v) (ds.set i d) := by
  induction vs generalizing ds i with
  | nil => cases h; simp; exact .nil
  | cons w vs ih =>
    cases h with
    | cons r rs => cases i with
      | zero => exact .cons g rs
      | succ i => exact .cons r (ih i rs)
theorem Reps.reverse {vs : List V} {ds : List D} (h : Reps K H S vs ds) : Reps K H S vs.reverse ds.reverse := by
  induction vs generalizing ds with
  | nil => cases h; exact .nil
  | cons v vs ih =>
    cases h with
    | cons r rs => simp only [List.reverse_cons]; exact (ih rs).append (.cons r .nil)
theorem Reps.rep {vs : List V} {ds : List D} (h : Reps K H S vs ds) : ∀ n, Reps K H S (List.replicate n vs).flatten (List.replicate n ds).flatten
  | 0 => .nil
  | n + 1 => by simp only [List.replicate_succ, List.flatten_cons]; exact h.append (h.rep n)
theorem Reps.cut {vs : List V} {ds : List D} (h : Reps K H S vs ds) (lo hi : Option Int) : Reps K H S (L2.cutV vs lo hi) (cutL ds lo hi) := by
  unfold L2.cutV cutL
  rw [h.length]
  exact (h.drop _).take _
mutual
theorem Rep.reads {X : Cx} {pins : List (Addr × Obj)} {σ : L2.St} {s : Shared} (I : Inv X pins σ H s) : ∀ {d : D} {v : V} {u : Value}, Rep X.K H S v d → RelV v u → ∃ as, Reads s.heap u d as
  | _, _, _, .non, r => by cases r; exact ⟨_, Reads.none⟩
  | _, _, _, .bl b, r => by cases r; exact ⟨_, Reads.bool b⟩
  | _, _, _, .int i, r => by obtain ⟨t, rfl⟩ := r; exact ⟨_, Reads.int i t⟩
  | _, _, _, .str x, r => by obtain ⟨t, rfl⟩ := r; exact ⟨_, Reads.str x t⟩
  | _, _, _, .lst h hs, r => by
    cases r
    obtain ⟨its, rv, ⟨o, n, ho, hc, _, hd⟩, _⟩ := I.list h.sq
    obtain ⟨as, hr⟩ := Reps.reads I hs rv
    exact ⟨_, Reads.list ho hc hd hr⟩
  | _, _, _, .tup h hs, r => by
    cases r
    obtain ⟨its, rv, ⟨o, ho, hc, n, hd⟩, _⟩ := I.tuple h.sq
    obtain ⟨as, hr⟩ := Reps.reads I hs rv
    exact ⟨_, Reads.tuple ho hc hd hr⟩
theorem Reps.reads {X : Cx} {pins : List (Addr × Obj)} {σ : L2.St} {s : Shared} (I : Inv X pins σ H s) : ∀ {ds : List D} {vs : List V} {us : List Value}, Reps X.K H S vs ds → Vals vs us → ∃ as, ReadsAll s.heap us ds as
  | _, _, _, .nil, r => by cases r; exact ⟨_, ReadsAll.nil⟩
  | _, _, _, .cons h hs, r => by
    cases r with
    | cons r1 r2 =>
      obtain ⟨as, q1⟩ := Rep.reads I h r1
      obtain ⟨bs, q2⟩ := Reps.reads I hs r2
      exact ⟨_, ReadsAll.cons q1 q2⟩
end
end
end Cw
end

section
namespace Cw
open PySem PySem.Spec PyProof.Rows L2

section
variable {prog : Program} {w : World} {A : Around} {E : Value → Shared → Prop} {s : Shared}
theorem argsMx3 (a b c : Value) : argsOk "max" ⟨[a, b, c], []⟩ := by unfold argsOk; kernel_rfl
theorem argsMx4 (a b c d : Value) : argsOk "max" ⟨[a, b, c, d], []⟩ := by unfold argsOk; kernel_rfl
theorem argsMn3 (a b c : Value) : argsOk "min" ⟨[a, b, c], []⟩ := by unfold argsOk; kernel_rfl
theorem manyMax {a b : Value} {r : List Value} {Q : Value → Shared → Prop} (ha : argsOk "max" ⟨a :: b :: r, []⟩) (hl : (a :: b :: r).length ≤ sizeLine)
    (h : wpAny (model prog w) A.in1 (pyIter (.ref s.heap.objs.size)) (fun it s2 => ∃ I fp wr n P St bt, it = .ref I ∧ Walks prog w A.in1 I fp wr n P St ∧ St 0 s2.heap ∧ (∀ b ∈ fp, b < s2.heap.objs.size) ∧ 0 < n ∧ CmpOf prog w A.in1 .Gt P bt ∧
      ∀ v h' tk, P (argBest bt (n - 1)) v → (∀ b o, b ∉ wr → s2.heap.get? b = some o → h'.get? b = some o) → Q v { s2 with heap := h', toks := tk }) E
      { s with heap := s.heap.push { cls := .type "tuple", data := .seq (a :: b :: r).toArray } }) : wpAny (model prog w) A (call (.builtin "max") (a :: b :: r)) Q E s := by
  have hn : (toString "max" ++ toString ".loop" : String) = "max.loop" := by decide
  refine call_function_tree PySem.F.kind_max PySem.F.plain_max PySem.F.entry_max ha ?_
  show wpAny _ A.in1 (Builtin.Builtins.bindParams "max" ["key", "default"] 0 ⟨[], []⟩ >>= _) _ _ s
  refine wpAny_bind (wpAny_of_eq (show Builtin.Builtins.bindParams "max" ["key", "default"] 0 ⟨[], []⟩ = pure [none, none] from rfl) ?_)
  show wpAny _ A.in1 (newTuple (a :: b :: r) >>= _) _ _ s
  refine wpAny_bind (wpAny_newTuple ?_ hl)
  refine wpAny_bind (wpAny_mono h (fun it s2 z => ?_) fun _ _ e => e)
  obtain ⟨I, fp, wr, n, P, St, bt, rfl, W, st, hfp, hp, hc, hQ⟩ := z
  refine wpAny_bind (wpAny_newObj_type ?_)
  have nf : s2.heap.objs.size ∉ fp := fun hm => Nat.lt_irrefl _ (hfp _ hm)
  rw [hn]
  refine wpAny_pure ⟨plainId_quiet PySem.F.plain_max_loop _, codeAny_max_loop_first W bt hc s2.heap.objs.size nf hp (W.frame _ _ _ st fun b _ o e => Heap.get?_push_of_some _ e) (Heap.get?_push_size _ rfl) fun v h' tk hP hk => ?_⟩
  exact hQ v h' tk hP fun b o hb e => hk b o hb (Nat.ne_of_lt (Heap.lt_size e)) (Heap.get?_push_of_some _ e)
theorem manyMin {a b : Value} {r : List Value} {Q : Value → Shared → Prop} (ha : argsOk "min" ⟨a :: b :: r, []⟩) (hl : (a :: b :: r).length ≤ sizeLine)
    (h : wpAny (model prog w) A.in1 (pyIter (.ref s.heap.objs.size)) (fun it s2 => ∃ I fp wr n P St bt, it = .ref I ∧ Walks prog w A.in1 I fp wr n P St ∧ St 0 s2.heap ∧ (∀ b ∈ fp, b < s2.heap.objs.size) ∧ 0 < n ∧ CmpOf prog w A.in1 .Lt P bt ∧
      ∀ v h' tk, P (argBest bt (n - 1)) v → (∀ b o, b ∉ wr → s2.heap.get? b = some o → h'.get? b = some o) → Q v { s2 with heap := h', toks := tk }) E
      { s with heap := s.heap.push { cls := .type "tuple", data := .seq (a :: b :: r).toArray } }) : wpAny (model prog w) A (call (.builtin "min") (a :: b :: r)) Q E s := by
  have hn : (toString "min" ++ toString ".loop" : String) = "min.loop" := by decide
  refine call_function_tree PySem.F.kind_min PySem.F.plain_min PySem.F.entry_min ha ?_
  show wpAny _ A.in1 (Builtin.Builtins.bindParams "min" ["key", "default"] 0 ⟨[], []⟩ >>= _) _ _ s
  refine wpAny_bind (wpAny_of_eq (show Builtin.Builtins.bindParams "min" ["key", "default"] 0 ⟨[], []⟩ = pure [none, none] from rfl) ?_)
  show wpAny _ A.in1 (newTuple (a :: b :: r) >>= _) _ _ s
  refine wpAny_bind (wpAny_newTuple ?_ hl)
  refine wpAny_bind (wpAny_mono h (fun it s2 z => ?_) fun _ _ e => e)
  obtain ⟨I, fp, wr, n, P, St, bt, rfl, W, st, hfp, hp, hc, hQ⟩ := z
  refine wpAny_bind (wpAny_newObj_type ?_)
  have nf : s2.heap.objs.size ∉ fp := fun hm => Nat.lt_irrefl _ (hfp _ hm)
  rw [hn]
  refine wpAny_pure ⟨plainId_quiet PySem.F.plain_min_loop _, codeAny_min_loop_first W bt hc s2.heap.objs.size nf hp (W.frame _ _ _ st fun b _ o e => Heap.get?_push_of_some _ e) (Heap.get?_push_size _ rfl) fun v h' tk hP hk => ?_⟩
  exact hQ v h' tk hP fun b o hb e => hk b o hb (Nat.ne_of_lt (Heap.lt_size e)) (Heap.get?_push_of_some _ e)
/-- the walk over the new tuple of the arguments -/
theorem overArgs {op : CmpOp} {bt : Nat → Nat → Bool} (xs : Array (Int × Tok)) (its : Array Value) (hi : its = intItems xs) (hx : 0 < xs.size) (hh : A.handled = none) (hc : CmpOf prog w A.in1 op (fun i v => (intItems xs)[i]? = some v) bt) {Q : Value → Shared → Prop}
    (q : ∀ v h' tk, (intItems xs)[argBest bt (xs.size - 1)]? = some v → (∀ c o, s.heap.get? c = some o → h'.get? c = some o) → Q v { s with heap := h', toks := tk }) :
    wpAny (model prog w) A.in1 (pyIter (.ref s.heap.objs.size)) (fun it s2 => ∃ I fp wr n P St bt, it = .ref I ∧ Walks prog w A.in1 I fp wr n P St ∧ St 0 s2.heap ∧ (∀ b ∈ fp, b < s2.heap.objs.size) ∧ 0 < n ∧ CmpOf prog w A.in1 op P bt ∧
      ∀ v h' tk, P (argBest bt (n - 1)) v → (∀ b o, b ∉ wr → s2.heap.get? b = some o → h'.get? b = some o) → Q v { s2 with heap := h', toks := tk }) E
      { s with heap := s.heap.push { cls := .type "tuple", data := .seq its } } := by
  subst hi
  have hT : (s.heap.push { cls := .type "tuple", data := .seq (intItems xs) }).IsTuple s.heap.objs.size (intItems xs) := ⟨_, Heap.get?_push_size _ rfl, rfl, 0, rfl⟩
  refine wpAny_pyIter_tuple hT ?_
  have z : (s.heap.push { cls := .type "tuple", data := .seq (intItems xs) }).objs.size = s.heap.objs.size + 1 := Heap.size_push ..
  refine ⟨_, [_, s.heap.objs.size], [_], _, _, _, _, rfl, Walks.tuple (A := A.in1) hh _ s.heap.objs.size (by rw [z]; exact Nat.ne_of_lt (Nat.lt_succ_self _)) (intItems xs), ⟨⟨_, Heap.get?_push_size _ rfl, rfl, rfl⟩, hT.push _⟩, fun c hc => ?_, by simpa [intItems] using hx, hc, fun v h' tk hP hk => ?_⟩
  · show c < ((s.heap.push _).push _).objs.size
    rw [Heap.size_push, z]
    simp only [List.mem_cons, List.not_mem_nil, or_false] at hc
    rcases hc with rfl | rfl
    · rw [z]; exact Nat.lt_succ_self _
    · exact Nat.lt_succ_of_lt (Nat.lt_succ_self _)
  · have e : (intItems xs).size - 1 = xs.size - 1 := by simp [intItems]
    rw [e] at hP
    refine q v h' tk hP fun c o g => hk c o (fun hm => ?_) (Heap.get?_push_of_some _ (Heap.get?_push_of_some _ g))
    have lt := Heap.lt_size g
    simp only [List.mem_cons, List.not_mem_nil, or_false] at hm
    rw [hm, z] at lt
    exact Nat.lt_irrefl _ (Nat.lt_of_succ_lt lt)
end
section
variable {X : Cx} {pins : List (Addr × Obj)} {σ : L2.St} {s : Shared} {H : Hp}
theorem best3 (f : Int → Int → Bool) (a b c : Int × Tok) : ∃ t, (intItems #[a, b, c])[argBest (fun i j => f (numAt #[a, b, c] i) (numAt #[a, b, c] j)) 2]? = some (.int (if f c.1 (if f b.1 a.1 then b.1 else a.1) then c.1 else (if f b.1 a.1 then b.1 else a.1)) t) := by
  cases h1 : f b.1 a.1 with
  | true =>
    cases h2 : f c.1 b.1 with
    | true => exact ⟨c.2, by simp [argBest, numAt, intItems, h1, h2]⟩
    | false => exact ⟨b.2, by simp [argBest, numAt, intItems, h1, h2]⟩
  | false =>
    cases h2 : f c.1 a.1 with
    | true => exact ⟨c.2, by simp [argBest, numAt, intItems, h1, h2]⟩
    | false => exact ⟨a.2, by simp [argBest, numAt, intItems, h1, h2]⟩
theorem best4 (f : Int → Int → Bool) (a b c d : Int × Tok) : ∃ t, (intItems #[a, b, c, d])[argBest (fun i j => f (numAt #[a, b, c, d] i) (numAt #[a, b, c, d] j)) 3]? = some (.int (let m := (if f c.1 (if f b.1 a.1 then b.1 else a.1) then c.1 else (if f b.1 a.1 then b.1 else a.1)); if f d.1 m then d.1 else m) t) := by
  cases h1 : f b.1 a.1 with
  | true =>
    cases h2 : f c.1 b.1 with
    | true =>
      cases h3 : f d.1 c.1 with
      | true => exact ⟨d.2, by simp [argBest, numAt, intItems, h1, h2, h3]⟩
      | false => exact ⟨c.2, by simp [argBest, numAt, intItems, h1, h2, h3]⟩
    | false =>
      cases h3 : f d.1 b.1 with
      | true => exact ⟨d.2, by simp [argBest, numAt, intItems, h1, h2, h3]⟩
      | false => exact ⟨b.2, by simp [argBest, numAt, intItems, h1, h2, h3]⟩
  | false =>
    cases h2 : f c.1 a.1 with
    | true =>
      cases h3 : f d.1 c.1 with
      | true => exact ⟨d.2, by simp [argBest, numAt, intItems, h1, h2, h3]⟩
      | false => exact ⟨c.2, by simp [argBest, numAt, intItems, h1, h2, h3]⟩
    | false =>
      cases h3 : f d.1 a.1 with
      | true => exact ⟨d.2, by simp [argBest, numAt, intItems, h1, h2, h3]⟩
      | false => exact ⟨a.2, by simp [argBest, numAt, intItems, h1, h2, h3]⟩
theorem rvI {i : Int} {u : Value} (h : RelV (.int i) u) : ∃ t, u = .int i t := h
theorem vals3 {x y z : V} {us : List Value} (r : Vals [x, y, z] us) : ∃ a b c, us = [a, b, c] ∧ RelV x a ∧ RelV y b ∧ RelV z c := by
  cases r with
  | cons r1 r => obtain ⟨b, c, rfl, h1, h2⟩ := vals2 r; exact ⟨_, _, _, rfl, r1, h1, h2⟩
theorem vals4 {x y z v : V} {us : List Value} (r : Vals [x, y, z, v] us) : ∃ a b c d, us = [a, b, c, d] ∧ RelV x a ∧ RelV y b ∧ RelV z c ∧ RelV v d := by
  cases r with
  | cons r1 r => obtain ⟨b, c, d, rfl, h1, h2, h3⟩ := vals3 r; exact ⟨_, _, _, _, rfl, r1, h1, h2, h3⟩
theorem szl : 4 ≤ sizeLine := by rw [sizeLine_eq]; decide
theorem call_max3 (hc : X.calm = true) : CallR X (.builtin "max") (fun xs H Q => ∃ i j k, xs = [.int i, .int j, .int k] ∧ Q (.int (big2 (big2 i j) k)) H) := by
  intro pins s σ H xs us Q I r h
  obtain ⟨i, j, k, rfl, q⟩ := h
  obtain ⟨_, _, _, rfl, ⟨t1, rfl⟩, ⟨t2, rfl⟩, ⟨t3, rfl⟩⟩ := vals3 r
  refine manyMax (argsMx3 _ _ _) (by have := szl; simp only [List.length_cons, List.length_nil]; omega) (overArgs #[(i, t1), (j, t2), (k, t3)] _ (by simp [intItems]) (by simp) (I.ok.hd hc) (CmpOf.ints_gt (numAt #[(i, t1), (j, t2), (k, t3)]) fun _ _ => intItems_at) fun v h' tk hv hk => ?_)
  obtain ⟨t, e⟩ := best3 (fun a b => decide (a > b)) (i, t1) (j, t2) (k, t3)
  have e2 := hv.symm.trans e
  simp only [Option.some.injEq] at e2
  refine ⟨.int (big2 (big2 i j) k), H, I.kept hk, ⟨t, ?_⟩, q⟩
  rw [e2]
  simp only [big2, decide_eq_true_eq] <;> rfl
theorem call_min3 (hc : X.calm = true) : CallR X (.builtin "min") (fun xs H Q => ∃ i j k, xs = [.int i, .int j, .int k] ∧ Q (.int (sml2 (sml2 i j) k)) H) := by
  intro pins s σ H xs us Q I r h
  obtain ⟨i, j, k, rfl, q⟩ := h
  obtain ⟨_, _, _, rfl, ⟨t1, rfl⟩, ⟨t2, rfl⟩, ⟨t3, rfl⟩⟩ := vals3 r
  refine manyMin (argsMn3 _ _ _) (by have := szl; simp only [List.length_cons, List.length_nil]; omega) (overArgs #[(i, t1), (j, t2), (k, t3)] _ (by simp [intItems]) (by simp) (I.ok.hd hc) (CmpOf.ints_lt (numAt #[(i, t1), (j, t2), (k, t3)]) fun _ _ => intItems_at) fun v h' tk hv hk => ?_)
  obtain ⟨t, e⟩ := best3 (fun a b => decide (a < b)) (i, t1) (j, t2) (k, t3)
  have e2 := hv.symm.trans e
  simp only [Option.some.injEq] at e2
  refine ⟨.int (sml2 (sml2 i j) k), H, I.kept hk, ⟨t, ?_⟩, q⟩
  rw [e2]
  simp only [sml2, decide_eq_true_eq] <;> rfl
theorem call_max4 (hc : X.calm = true) : CallR X (.builtin "max") (fun xs H Q => ∃ i j k l, xs = [.int i, .int j, .int k, .int l] ∧ Q (.int (big2 (big2 (big2 i j) k) l)) H) := by
  intro pins s σ H xs us Q I r h
  obtain ⟨i, j, k, l, rfl, q⟩ := h
  obtain ⟨_, _, _, _, rfl, ⟨t1, rfl⟩, ⟨t2, rfl⟩, ⟨t3, rfl⟩, ⟨t4, rfl⟩⟩ := vals4 r
  refine manyMax (argsMx4 _ _ _ _) (by have := szl; simp only [List.length_cons, List.length_nil]; omega) (overArgs #[(i, t1), (j, t2), (k, t3), (l, t4)] _ (by simp [intItems]) (by simp) (I.ok.hd hc) (CmpOf.ints_gt (numAt #[(i, t1), (j, t2), (k, t3), (l, t4)]) fun _ _ => intItems_at) fun v h' tk hv hk => ?_)
  obtain ⟨t, e⟩ := best4 (fun a b => decide (a > b)) (i, t1) (j, t2) (k, t3) (l, t4)
  have e2 := hv.symm.trans e
  simp only [Option.some.injEq] at e2
  refine ⟨.int (big2 (big2 (big2 i j) k) l), H, I.kept hk, ⟨t, ?_⟩, q⟩
  rw [e2]
  simp only [big2, decide_eq_true_eq] <;> rfl
end
end Cw
end

section
namespace Cw
open PySem PySem.Spec PyProof.Rows L2
section
variable {prog : Program} {w : World} {A : Around} {E : Value → Shared → Prop} {s : Shared}
def newSet (led : Bool) : Obj := { cls := .type "set", dict := none, data := .set #[] 0 (.fresh 0 0 led) }
theorem setTup {l : Addr} {its : Array Value} {ns : List Int} {Q : Value → Shared → Prop} (hh : A.handled = none) (hl : s.heap.IsTuple l its) (hi : IntsAre its.toList ns) (hb : its.size + 1 < scanBound)
    (h : ∀ (h' : Heap) (tk : Nat), h'.SetOf (intKind prog w) s.heap.objs.size (fun k => (firstMet (fun i => ns.getD i 0) its.size).any (· == k)) (firstMet (fun i => ns.getD i 0) its.size).length →
      (∀ b o, b < s.heap.objs.size → s.heap.get? b = some o → h'.get? b = some o) → Q (.ref s.heap.objs.size) { s with heap := h', toks := tk }) : wpAny (model prog w) A (call (.type "set") [.ref l]) Q E s := by
  obtain ⟨c, tl, hmro⟩ := PySem.F.called_set.mro
  have hmade := PySem.F.called_set.made
  have hsub := PySem.F.called_set.sub
  refine wpAny_call (codeAny_of_tree ?_)
  show wpAny _ _ (callAny (.type "set") _) _ _ _
  refine wpAny_pure ⟨Code.quiet_builtin _ (by decide +kernel), codeAny_builtin PySem.F.entry_type_call ?_⟩
  rw [Around.under_plain (weight_type_call_type "set" [.ref l] []) rfl]
  have h1 := PySem.F.called_set.notType
  have h2 := PySem.F.called_set.canCreate
  have hct := PySem.F.typeCall_set_1 (.ref l)
  repeat (any_goals (first | assumption | wp_step))
  refine codeAny_mono (code_set_new_1 (.ref l) (E := E) (Q₁ := fun obj z => ∃ led : Bool, obj = .ref s.heap.objs.size ∧ z = { s with heap := s.heap.push (newSet led) }) fun led => ⟨led, rfl, rfl⟩) fun r z hr => ?_
  cases r with
  | error e => exact hr
  | ok fl =>
    cases fl with
    | ret obj =>
      obtain ⟨led, rfl, rfl⟩ := hr
      have gS : (s.heap.push (newSet led)).get? s.heap.objs.size = some (newSet led) := Heap.get?_push_size _ rfl
      have hT : Shared.TypeIs { s with heap := s.heap.push (newSet led) } (.ref s.heap.objs.size) "set" := ⟨_, gS, rfl⟩
      have hli := PySem.F.called_set.init.lookup
      have hbi := PySem.F.called_set.init.bind (.ref s.heap.objs.size)
      repeat (any_goals (first | assumption | wp_step))
      refine codeAny_mono (codeAny_call_builtin (R := wants (fun r z => r = .none ∧ ∃ h' tk, z = { s with heap := h', toks := tk } ∧
          h'.SetOf (intKind prog w) s.heap.objs.size (fun k => (firstMet (fun i => ns.getD i 0) its.size).any (· == k)) (firstMet (fun i => ns.getD i 0) its.size).length ∧
          (∀ b o, b < s.heap.objs.size → s.heap.get? b = some o → h'.get? b = some o)) E) PySem.F.called_set.init.plain PySem.F.entry_set_init (check_set_init_1 hT ?_)) fun r2 z2 hr2 => ?_
      · obtain ⟨⟨oc, od, odt, osl⟩, hol, hcl, nl, hdl⟩ := hl
        simp only at hcl hdl
        subst hcl hdl
        have ho2 : (s.heap.push (newSet led)).get? l = some { cls := .type "tuple", dict := od, data := .seq its nl, slots := osl } := Heap.get?_push_of_some _ hol
        have s1 := PySem.F.sub_tuple_set
        have s2 := PySem.F.sub_tuple_frozenset
        have ne : (Value.type "tuple" == Value.type "dict") = false := by decide
        have t1 : (s.heap.push (newSet led)).IsTuple l its := ⟨_, ho2, rfl, nl, rfl⟩
        unfold Builtin.«set.__init__» noKeywords Builtin.Frozenset.updateFrom
        generalize hPI : pyIter = PI
        wp_walk
        subst hPI
        refine wpAny_pyIter_tuple t1 (wpAny_bind (wpAny_runValue ?_))
        have lt := Heap.lt_size hol
        have sz : (s.heap.push (newSet led)).objs.size = s.heap.objs.size + 1 := Heap.size_push ..
        have h3 : A.in1.in1.in1.handled = none := by simp [hh]
        have nI : l ≠ (s.heap.push (newSet led)).objs.size := by rw [sz]; exact Nat.ne_of_lt (Nat.lt_succ_of_lt lt)
        have nf : s.heap.objs.size ∉ [(s.heap.push (newSet led)).objs.size, l] := by
          rw [sz]
          simp only [List.mem_cons, List.not_mem_nil, or_false, not_or]
          exact ⟨Nat.ne_of_lt (Nat.lt_succ_self _), Nat.ne_of_gt lt⟩
        refine codeAny_set_update_loopS ((Walks.tuple h3 _ l nI its).toS) s.heap.objs.size nf (fun i => ns.getD i 0) (fun i v hv => IntsAre.int_at hi i v (by rw [Array.getElem?_toList]; exact hv)) hb (its.size - 0) 0 _ (by omega) (Nat.zero_le _) ⟨⟨_, Heap.get?_push_size _ rfl, rfl, rfl⟩, (t1.push _)⟩ ?_ ?_
        · have g : ((s.heap.push (newSet led)).push { cls := .type "tuple_iterator", data := .fields #[.ref l, .int 0 0] }).get? s.heap.objs.size = some (newSet led) := Heap.get?_push_of_some _ gS
          exact SetOf_congr ((setObjOf_fresh (knd := intKind prog w) led).setOf g (by unfold scanBound; omega)) (fun _ => rfl) rfl
        · intro z hm hz
          obtain ⟨h', g', d', tk', os'⟩ := z
          have eg : g' = s.gens := hm.gens
          have ed : d' = s.drawn := hm.drawn
          have eo : os' = s.os := hm.os
          subst eg; subst ed; subst eo
          show wpAny _ _ _ _ _ _
          refine wpAny_pure ?_
          show wpAny _ _ (ret Value.none) _ _ _
          refine wpAny_pure ⟨rfl, h', tk', rfl, hz, fun b o hb2 e => ?_⟩
          refine hm.heap b o ?_ (Heap.get?_push_of_some _ (Heap.get?_push_of_some _ e))
          rw [sz]
          simp only [List.mem_cons, List.not_mem_nil, or_false, not_or]
          exact ⟨Nat.ne_of_lt hb2, Nat.ne_of_lt (Nat.lt_succ_of_lt hb2)⟩
      · cases r2 with
        | error e => exact hr2
        | ok fl2 =>
          cases fl2 with
          | ret r =>
            obtain ⟨rfl, h', tk, rfl, hz, hk⟩ := hr2
            repeat (any_goals (first | assumption | wp_step))
            exact h _ _ hz hk
          | _ => exact hr2.elim
    | _ => exact hr.elim
end
theorem met_all (ns : List Int) : firstMet (fun i => ns.getD i 0) ns.length = ddp ns := by
  have e : (List.range ns.length).map (fun i => ns.getD i 0) = ns := by
    apply List.ext_getElem?
    intro i
    by_cases h : i < ns.length
    · simp [h, List.getD_eq_getElem?_getD]
    · simp [h, List.getElem?_eq_none (Nat.le_of_not_lt h)]
  show ((List.range ns.length).map fun i => ns.getD i 0).foldl step_dedup [] = _
  rw [e]
  rfl
def tLens (K : PySem.W.Frag) (ta : TE) : TE := fun σ H Q => ta σ H fun x H1 => ∃ (l : Addr) (ns : List Int), x = V.ref l ∧ (SqL K H1 l (ns.map V.int) ∨ SqT K H1 l (ns.map V.int)) ∧ ns.length ≤ 4000 ∧ Q (.int ((ddp ns).length : Nat)) H1
theorem pe_lens {X : Cx} {a : Expr} {ta : TE} {p p2 q pos : Pos} (hc : X.calm = true) (hg : Gl X "len") (hm : X.mg "len" = none) (hg2 : Gl X "set") (hm2 : X.mg "set" = none) (ha : PE X a ta)
    (na : starEach [a] X.env = (false, eval a X.env) :: starEach [] X.env) : PE X (.Call (.Name "len" p) [.Call (.Name "set" p2) [a] [] q] [] pos) (tLens X.K ta) := by
  refine ⟨fun pins s σ H Q I h => ?_⟩
  refine Call_ (ld_blt I hg hm PySem.boot_len ?_)
  refine PyProof.Rows.callWith_builtin1 (PyProof.Rows.args_cons ?_ rfl) rfl rfl
  refine Call_ (ld_blt I hg2 hm2 PyProof.Rows.boot_set ?_)
  refine PyProof.Rows.callWith_type1 (PyProof.Rows.args_cons (thn (ha.run pins s σ H _ I h) fun v s1 ⟨x, H1, I1, r1, q1⟩ => PyProof.Rows.args_nil ?_) na) na rfl
  obtain ⟨l, ns, rfl, hq, hl, q1⟩ := q1
  cases r1
  have len : (ddp ns).length ≤ 4000 := by
    rw [← met_all]
    exact Nat.le_trans (firstMet_length_le _ _) hl
  have fin : ∀ (h' : Heap) (tk : Nat), h'.SetOf (intKind X.prog X.w) s1.heap.objs.size (fun k => (ddp ns).any (· == k)) (ddp ns).length → (∀ b o, b < s1.heap.objs.size → s1.heap.get? b = some o → h'.get? b = some o) →
      wpAny (model X.prog X.w) X.A (call (.builtin "len") [.ref s1.heap.objs.size]) (EP X pins σ Q) X.xe { s1 with heap := h', toks := tk } := fun h' tk hS hk => by
    obtain ⟨o, es, ep, t, ho, hex, hd, _, _, _, hf, hn⟩ := hS
    have I2 : Inv X pins σ H1 { s1 with heap := h', toks := tk } := I1.kept fun b o e => hk b o (Heap.lt_size e) e
    refine call_len_set ho hex hd hf (by rw [hn] <;> omega) ⟨.int ((ddp ns).length : Nat), H1, I2.tok _, ⟨_, by rw [hn]⟩, q1⟩
  rcases hq with hq | hq
  · obtain ⟨its, r, pl, hz⟩ := I1.list hq
    have hs : its.toArray.size = ns.length := by rw [List.size_toArray, ← r.length, List.length_map]
    refine call_set_list (I1.ok.hd hc) pl.isList (ns := ns) (by simpa using r.ints) (by unfold scanBound; omega) fun h' tk hS hk => PyProof.Rows.args_nil ?_
    rw [hs, met_all] at hS
    exact fin h' tk hS hk
  · obtain ⟨its, r, pl, hz⟩ := I1.tuple hq
    have hs : its.toArray.size = ns.length := by rw [List.size_toArray, ← r.length, List.length_map]
    refine setTup (I1.ok.hd hc) (show s1.heap.IsTuple l its.toArray from pl) (ns := ns) (by simpa using r.ints) (by unfold scanBound; omega) fun h' tk hS hk => PyProof.Rows.args_nil ?_
    rw [hs, met_all] at hS
    exact fin h' tk hS hk
end Cw
end

section
namespace Cw
open PySem PySem.Spec PyProof.Rows L2

def inF (Fs : List (Option Addr)) (a : Addr) : Prop := some a ∈ Fs
/-- what is to be kept away from; the lists of ours that are only looked into -/
structure Prot where
  a : Addr → Prop
  p : Addr → Prop
instance : CoeFun Prot fun _ => Addr → Prop := ⟨Prot.a⟩
def Prot.add (A : Prot) (x : Addr) : Prot := ⟨fun a => A.a a ∨ a = x, A.p⟩
def Sv (A0 : Prot) (Fs : List (Option Addr)) (a : Addr) : Prop := A0 a ∨ inF Fs a
/-- an owned list at a -/
def OwnL (K : Fr) (H : Hp) (S : Addr → Prop) (a : Addr) (d : D) : Prop := ∃ xs ds, d = .list ds ∧ H a = some (.lst xs) ∧ Reps K H S xs ds
structure Good (K : Fr) (A0 : Prot) (σ : L2.St) (H : Hp) (r : Env) (Fs : List (Option Addr)) : Prop where
  len : Fs.length = r.length
  slen : σ.length = r.length
  val : ∀ (i : Nat) d, r[i]? = some (.val d) → ∃ v, σ[i]? = some (some v) ∧ Rep K H (Sv A0 Fs) v d
  own : ∀ (i k : Nat) d, r[i]? = some (.own k d) → k = 1 ∧ ∃ a, Fs[i]? = some (some a) ∧ σ[i]? = some (some (.ref a)) ∧ ¬ A0 a ∧ OwnL K H (Sv A0 Fs) a d
  chg : ∀ (i : Nat) d, r[i]? = some (.mut d) → ∃ a, Fs[i]? = some (some a) ∧ σ[i]? = some (some (.ref a)) ∧ A0 a ∧ OwnL K H (Sv A0 Fs) a d
  prt : ∀ (i : Nat) d, r[i]? = some (.prt d) → ∃ a, σ[i]? = some (some (.ref a)) ∧ A0.p a ∧ OwnL K H (Sv A0 Fs) a d
  pal : ∀ a, A0.p a → ¬ inF Fs a ∧ H a ≠ none
  inj : ∀ (i j : Nat) a, Fs[i]? = some (some a) → Fs[j]? = some (some a) → i = j
  emp : ∀ (i : Nat) a, Fs[i]? = some (some a) → (∃ d, r[i]? = some (.own 1 d)) ∨ ∃ d, r[i]? = some (.mut d)
  al : ∀ a, A0 a → H a ≠ none
section
variable {K : Fr} {H H' : Hp} {S : Addr → Prop} {A0 : Prot} {σ : L2.St} {r : Env} {Fs : List (Option Addr)}
theorem Good.ownAt (G : Good K A0 σ H r Fs) {i : Nat} {a : Addr} (h : Fs[i]? = some (some a)) : ∃ xs, H a = some (.lst xs) := by
  rcases G.emp i a h with ⟨d, e⟩ | ⟨d, e⟩
  · obtain ⟨_, b, h1, _, _, xs, _, _, h2, _⟩ := G.own i 1 d e
    rw [h] at h1; cases h1; exact ⟨xs, h2⟩
  · obtain ⟨b, h1, _, _, xs, _, _, h2, _⟩ := G.chg i d e
    rw [h] at h1; cases h1; exact ⟨xs, h2⟩
theorem Good.lstF (G : Good K A0 σ H r Fs) {a : Addr} (h : inF Fs a) : ∃ xs, H a = some (.lst xs) := by
  obtain ⟨i, hi⟩ := List.mem_iff_getElem?.mp h
  exact G.ownAt hi
theorem Good.alS (G : Good K A0 σ H r Fs) : ∀ a, Sv A0 Fs a → H a ≠ none := fun a h => by
  rcases h with h | h
  · exact G.al a h
  · obtain ⟨xs, e⟩ := G.lstF h
    rw [e]; exact fun z => nomatch z
theorem OwnL.keep {M : Addr → Prop} {a : Addr} {d : D} (h : OwnL K H S a d) (k : Keep M H H') (m : ∀ a, M a → S a) (n : ¬ M a) : OwnL K H' S a d := by
  obtain ⟨xs, ds, rfl, e, r⟩ := h
  exact ⟨xs, ds, rfl, k.1 _ _ e n, r.keep k m⟩
/-- where nothing of ours was changed -/
theorem Good.keep0 (G : Good K A0 σ H r Fs) (k : Keep (fun _ => False) H H') : Good K A0 σ H' r Fs where
  len := G.len
  slen := G.slen
  val := fun i d e => let ⟨v, h, q⟩ := G.val i d e; ⟨v, h, q.keep k fun _ z => z.elim⟩
  own := fun i k' d e => let ⟨ek, a, h1, h2, h3, q⟩ := G.own i k' d e; ⟨ek, a, h1, h2, h3, q.keep k (fun _ z => z.elim) id⟩
  chg := fun i d e => let ⟨a, h1, h2, h3, q⟩ := G.chg i d e; ⟨a, h1, h2, h3, q.keep k (fun _ z => z.elim) id⟩
  prt := fun i d e => let ⟨a, h1, h2, q⟩ := G.prt i d e; ⟨a, h1, h2, q.keep k (fun _ z => z.elim) id⟩
  pal := fun a h => ⟨(G.pal a h).1, k.2 a (G.pal a h).2⟩
  inj := G.inj
  emp := G.emp
  al := fun a h => k.2 a (G.al a h)
end

/-- what an expression's value is behind its run; k = 1: a list is new -/
def ResOk (K : Fr) (H H' : Hp) (S : Addr → Prop) (k : Nat) (v : V) (d : D) : Prop :=
  Rep K H' S v d ∧ (k = 1 → ∀ ds, d = .list ds → ∃ a xs, v = .ref a ∧ H a = none ∧ H' a = some (.lst xs) ∧ Reps K H' (fun x => S x ∨ x = a) xs ds)
theorem ResOk.zero {K : Fr} {H H' : Hp} {S : Addr → Prop} {v : V} {d : D} (h : Rep K H' S v d) : ResOk K H H' S 0 v d := ⟨h, fun z => nomatch z⟩
theorem ResOk.atom {K : Fr} {H H' : Hp} {S : Addr → Prop} {k : Nat} {v : V} {d : D} (h : Rep K H' S v d) (n : ∀ ds, d ≠ .list ds) : ResOk K H H' S k v d := ⟨h, fun _ ds e => absurd e (n ds)⟩
theorem ResOk.down {K : Fr} {H H' : Hp} {S : Addr → Prop} {k j : Nat} {v : V} {d : D} (h : ResOk K H H' S k v d) (hj : j = 1 → k = 1) : ResOk K H H' S j v d := ⟨h.1, fun e => h.2 (hj e)⟩
/-- from an earlier start -/
theorem ResOk.back {K : Fr} {M : Addr → Prop} {H0 H H' : Hp} {S : Addr → Prop} {k : Nat} {v : V} {d : D} (h : ResOk K H H' S k v d) (kp : Keep M H0 H) : ResOk K H0 H' S k v d :=
  ⟨h.1, fun e ds ed => let ⟨a, xs, h1, h2, h3, h4⟩ := h.2 e ds ed; ⟨a, xs, h1, by
    cases q : H0 a with
    | none => rfl
    | some o => exact absurd h2 (kp.2 a (by rw [q]; exact fun z => nomatch z)), h3, h4⟩⟩
abbrev EAt := Ex → Value → Option Addr → Hp → Prop
section
variable (K : Fr) (A0 : Prot) (EA : EAt) (W : WX)
def Pst {α : Type} (σ : L2.St) (Fs : List (Option Addr)) (H : Hp) (o : Out α) (R : α → Env → Hp → Prop) : Prop :=
  match o with
  | .ok a r' => R a r' H
  | .exc x r' => ∀ cls dx H', Keep (inF Fs) H H' → Good K A0 σ H' r' Fs → EA x cls dx H' → W cls dx σ H'
  | .bad => False
/-- an expression's reading by the evaluator -/
def TEv (k : Nat) (f : Env → Out D) : TE := fun σ H Q => ∃ r Fs, Good K A0 σ H r Fs ∧ Pst K A0 EA W σ Fs H (f r) fun d r' _ =>
  ∀ v H', Keep (inF Fs) H H' → Good K A0 σ H' r' Fs → ResOk K H H' (Sv A0 Fs) k v d → Q v H'
def TTv (f : Env → Out Bool) : TT := fun σ H Q => ∃ r Fs, Good K A0 σ H r Fs ∧ Pst K A0 EA W σ Fs H (f r) fun b r' _ =>
  ∀ H', Keep (inF Fs) H H' → Good K A0 σ H' r' Fs → Q b H'
def TAv (f : Env → Out (List D)) : TA := fun σ H Q => ∃ r Fs, Good K A0 σ H r Fs ∧ Pst K A0 EA W σ Fs H (f r) fun ds r' _ =>
  ∀ vs H', Keep (inF Fs) H H' → Good K A0 σ H' r' Fs → Reps K H' (Sv A0 Fs) vs ds → Q vs H'
end
theorem PE.imp {X : Cx} {e : Expr} {t t' : TE} (h : PE X e t) (i : ∀ σ H Q, t' σ H Q → t σ H Q) : PE X e t' := ⟨fun pins s σ H Q I q => h.run pins s σ H Q I (i σ H Q q)⟩
theorem PT.imp {X : Cx} {e : Expr} {t t' : TT} (h : PT X e t) (i : ∀ σ H Q, t' σ H Q → t σ H Q) : PT X e t' := ⟨fun pins s σ H Q I q => h.run pins s σ H Q I (i σ H Q q)⟩
theorem PA.imp {X : Cx} {e : List Expr} {t t' : TA} (h : PA X e t) (i : ∀ σ H Q, t' σ H Q → t σ H Q) : PA X e t' := ⟨fun pos pins s σ H Q I q => h.run pos pins s σ H Q I (i σ H Q q)⟩
section
variable {K : Fr} {A0 : Prot} {EA : EAt} {W : WX} {σ : L2.St} {Fs : List (Option Addr)} {H H' : Hp}
/-- a first part's outcome, then the rest -/
theorem Pst.bind {α β : Type} {o : Out α} {g : α → Env → Out β} {R : β → Env → Hp → Prop} {R' : α → Env → Hp → Prop}
    (h : Pst K A0 EA W σ Fs H (o.bind g) R) (hR : ∀ a r', o = .ok a r' → Pst K A0 EA W σ Fs H (g a r') R → R' a r' H) : Pst K A0 EA W σ Fs H o R' := by
  cases o with
  | ok a r' => exact hR a r' rfl h
  | exc x r' => exact h
  | bad => exact h
/-- later, from a kept heap -/
theorem Pst.later {α : Type} {o : Out α} {R R' : α → Env → Hp → Prop} (h : Pst K A0 EA W σ Fs H o R) (k : Keep (inF Fs) H H') (hR : ∀ a r', R a r' H → R' a r' H') : Pst K A0 EA W σ Fs H' o R' := by
  cases o with
  | ok a r' => exact hR a r' h
  | exc x r' => exact fun cls dx H2 k2 g e => h cls dx H2 (k.trans k2) g e
  | bad => exact h
end
end Cw
end

section
namespace Cw
open PySem PySem.Spec PyProof.Rows L2

theorem LIM_eq : LIM = sizeLine := by rw [sizeLine_eq] <;> rfl
/-- what an operation on values is to do: al: the places to be kept away from are taken -/
def rVal (K : Fr) (k : Nat) (f : D → D → Option D) : R2 := fun x y H Q => ∃ (S : Addr → Prop) (dx dy d : D), (∀ a, S a → H a ≠ none) ∧ Rep K H S x dx ∧ Rep K H S y dy ∧ f dx dy = some d ∧
  ∀ v H', Keep (fun _ => False) H H' → ResOk K H H' S k v d → Q v H'
section
variable {X : Cx} {pins : List (Addr × Obj)} {σ : L2.St} {s : Shared} {H : Hp}
theorem op_catL : OpR X (binaryOp .Add) (fun x y H Q => ∃ l b xs zs, x = .ref l ∧ y = .ref b ∧ SqL X.K H l xs ∧ SqL X.K H b zs ∧ xs.length + zs.length ≤ sizeLine ∧ ∀ p, H p = none → Q (.ref p) (upd H p (.lst (xs ++ zs)))) := by
  intro pins s σ H x y v u Q I rx ry h
  obtain ⟨l, b, xs, zs, rfl, rfl, hH, hB, hz, q⟩ := h
  cases rx
  cases ry
  obtain ⟨its, r, ⟨⟨cls, dd, data, sl⟩, n, e, hc, _, hd⟩, _⟩ := I.list hH
  obtain ⟨its2, r2, ⟨⟨cls2, dd2, data2, sl2⟩, n2, e2, hc2, _, hd2⟩, _⟩ := I.list hB
  simp only at hc hd hc2 hd2
  subst hc hd hc2 hd2
  have hl := r.length
  have hl2 := r2.length
  have ea : its.toArray ++ its2.toArray = (its ++ its2).toArray := by simp
  refine concat_meets ⟨_, e, rfl⟩ ⟨_, e2, rfl⟩ noFill_list_add seq_list_add PySem.F.slot_list_add PySem.F.entry_list_add (PySem.F.args_list_add_2 _ _) (list_addW l b its.toArray its2.toArray n n2 dd dd2 sl sl2 (by simp only [List.size_toArray]; omega)) ⟨e, e2, ?_⟩
  rw [ea]
  exact ⟨.ref _, _, I.lnew (t' := s.toks) (r.append r2) (by rw [List.length_append]; omega), rfl, q _ I.fresh⟩
theorem str_len_le {a : Str} (h : a.length ≤ LIM) : a.length ≤ sizeLine := by rw [← LIM_eq]; exact h
theorem rep_int {K : Fr} {H : Hp} {S : Addr → Prop} {v : V} {i : Int} (h : Rep K H S v (.int i)) : v = .int i := by cases h; rfl
theorem rep_str {K : Fr} {H : Hp} {S : Addr → Prop} {v : V} {i : Str} (h : Rep K H S v (.str i)) : v = .str i := by cases h; rfl
theorem rep_bl {K : Fr} {H : Hp} {S : Addr → Prop} {v : V} {i : Bool} (h : Rep K H S v (.bool i)) : v = .bl i := by cases h; rfl
theorem rep_non {K : Fr} {H : Hp} {S : Addr → Prop} {v : V} (h : Rep K H S v .none) : v = .non := by cases h; rfl
theorem rep_lst {K : Fr} {H : Hp} {S : Addr → Prop} {v : V} {ds : List D} (h : Rep K H S v (.list ds)) : ∃ a xs, v = .ref a ∧ LstAt K H S a xs ∧ Reps K H S xs ds := by
  cases h with | lst h r => exact ⟨_, _, rfl, h, r⟩
theorem rep_tup {K : Fr} {H : Hp} {S : Addr → Prop} {v : V} {ds : List D} (h : Rep K H S v (.tuple ds)) : ∃ a xs, v = .ref a ∧ TupAt K H S a xs ∧ Reps K H S xs ds := by
  cases h with | tup h r => exact ⟨_, _, rfl, h, r⟩
theorem al_new {S : Addr → Prop} {p : Addr} (al : ∀ a, S a → H a ≠ none) (h : H p = none) : ¬ S p := fun z => al p z h
/-- a new list -/
theorem res_newL {K : Fr} {S : Addr → Prop} {p : Addr} {xs : List V} {ds : List D} {k : Nat} (al : ∀ a, S a → H a ≠ none) (h : H p = none) (r : Reps K H S xs ds) : ResOk K H (upd H p (.lst xs)) S k (.ref p) (.list ds) := by
  have r' : Reps K (upd H p (.lst xs)) S xs ds := r.keep (M := fun _ => False) (Keep.new h) fun _ z => z.elim
  exact ⟨.lst (.inl ⟨.inl upd_same, al_new al h⟩) r', fun _ ds' e => by cases e; exact ⟨p, xs, rfl, h, upd_same, (r.mono fun a z => z.elim .inl fun e => .inr (e ▸ h)).keep (M := fun _ => False) (Keep.new h) fun _ z => z.elim⟩⟩
theorem res_newT {K : Fr} {S : Addr → Prop} {p : Addr} {xs : List V} {ds : List D} {k : Nat} (al : ∀ a, S a → H a ≠ none) (h : H p = none) (r : Reps K H S xs ds) : ResOk K H (upd H p (.tup xs)) S k (.ref p) (.tuple ds) := by
  have r' : Reps K (upd H p (.tup xs)) S xs ds := r.keep (M := fun _ => False) (Keep.new h) fun _ z => z.elim
  exact ResOk.atom (.tup (.inl ⟨.inl upd_same, al_new al h⟩) r') fun _ e => nomatch e
theorem cmul_ok {i j : Int} (h : mulOk i j = true) : IntMulOk i j := by
  unfold mulOk at h
  rcases of_decide_eq_true h with h | h | h
  · exact CMul.ok (.inl h)
  · exact CMul.ok (.inr h)
  · exact CMulW.ok h
def opOf : BOp → Operator
  | .add => .Add | .sub => .Sub | .mul => .Mult | .fdiv => .FloorDiv | .mod => .Mod | .pow => .Pow
theorem op_bin (op : BOp) : OpR X (binaryOp (opOf op)) (rVal X.K 1 (binD op)) := by
  intro pins s σ H x y v u Q I rx ry ⟨S, dx, dy, d, al, hx, hy, hf, q⟩
  have hi : ∀ i, d = .int i → Q (.int i) H := fun i e => q _ _ Keep.refl (ResOk.atom (by rw [e]; exact .int i) (by rw [e]; exact fun _ z => nomatch z))
  cases op
  case add =>
    cases dx <;> cases dy <;> simp only [binD, Option.some.injEq, reduceCtorEq, Option.ite_none_right_eq_some] at hf
    · have e1 := rep_int hx; have e2 := rep_int hy; subst e1 e2
      exact op_add pins s σ H _ _ v u Q I rx ry ⟨_, _, rfl, rfl, hi _ hf.symm⟩
    · have e1 := rep_str hx; have e2 := rep_str hy; subst e1 e2
      obtain ⟨hl, hf⟩ := hf
      exact op_add_str pins s σ H _ _ v u Q I rx ry ⟨_, _, rfl, rfl, by rw [← LIM_eq]; exact hl, q _ _ Keep.refl (ResOk.atom (by rw [← hf]; exact .str _) (by rw [← hf]; exact fun _ z => nomatch z))⟩
    · obtain ⟨a, xs, rfl, la, ra⟩ := rep_lst hx
      obtain ⟨b, ys, rfl, lb, rb⟩ := rep_lst hy
      obtain ⟨hl, hf⟩ := hf
      subst hf
      refine op_catL pins s σ H _ _ v u Q I rx ry ⟨a, b, xs, ys, rfl, rfl, la.sq, lb.sq, by rw [← LIM_eq, ra.length, rb.length]; exact hl, fun p hp => q _ _ (Keep.new hp) ?_⟩
      exact res_newL al hp (ra.append rb)
    · obtain ⟨a, xs, rfl, la, ra⟩ := rep_tup hx
      obtain ⟨b, ys, rfl, lb, rb⟩ := rep_tup hy
      obtain ⟨hl, hf⟩ := hf
      subst hf
      refine op_catA pins s σ H _ _ v u Q I rx ry ⟨a, b, xs, ys, rfl, rfl, la.sq, lb.sq, by rw [← LIM_eq, ra.length, rb.length]; exact hl, fun e => ?_, fun _ e => ?_, fun _ _ p hp => ?_⟩
      · subst e
        cases ra
        exact q _ _ Keep.refl (ResOk.atom hy fun _ e => nomatch e)
      · subst e
        cases rb
        refine q _ _ Keep.refl (ResOk.atom (by simpa using hx) fun _ e => nomatch e)
      · exact q _ _ (Keep.new hp) (res_newT al hp (ra.append rb))
  case sub =>
    cases dx <;> cases dy <;> simp only [binD, Option.some.injEq, reduceCtorEq] at hf
    have e1 := rep_int hx; have e2 := rep_int hy; subst e1 e2
    exact op_sub pins s σ H _ _ v u Q I rx ry ⟨_, _, rfl, rfl, hi _ hf.symm⟩
  case mul =>
    cases dx <;> cases dy <;> simp only [binD, Option.some.injEq, reduceCtorEq, Option.ite_none_right_eq_some] at hf
    have e1 := rep_int hx; have e2 := rep_int hy; subst e1 e2
    obtain ⟨t, rfl⟩ := rx
    obtain ⟨t', rfl⟩ := ry
    exact mul_int ⟨.int _, H, I.tok _, ⟨_, rfl⟩, hi _ hf.2.symm⟩ (cmul_ok hf.1)
  case fdiv =>
    cases dx <;> cases dy <;> simp only [binD, Option.some.injEq, reduceCtorEq, Option.ite_none_right_eq_some] at hf
    have e1 := rep_int hx; have e2 := rep_int hy; subst e1 e2
    exact op_fdivW pins s σ H _ _ v u Q I rx ry ⟨_, _, rfl, rfl, (by have h1 := hf.1; unfold divOk at h1; have h2 := of_decide_eq_true h1; exact h2), hi _ hf.2.symm⟩
  case mod =>
    cases dx <;> cases dy <;> simp only [binD, Option.some.injEq, reduceCtorEq, Option.ite_none_right_eq_some] at hf
    have e1 := rep_int hx; have e2 := rep_int hy; subst e1 e2
    exact op_mod pins s σ H _ _ v u Q I rx ry ⟨_, _, rfl, rfl, hf.1, hi _ hf.2.symm⟩
  case pow =>
    cases dx <;> cases dy <;> simp only [binD, Option.some.injEq, reduceCtorEq, Option.ite_none_right_eq_some] at hf
    have e1 := rep_int hx; have e2 := rep_int hy; subst e1 e2
    exact op_pow pins s σ H _ _ v u Q I rx ry ⟨_, _, rfl, rfl, hf.1, hi _ hf.2.symm⟩

def copOf : COp → CmpOp
  | .eq => .Eq | .ne => .NotEq | .lt => .Lt | .le => .LtE | .gt => .Gt | .ge => .GtE | .isn => .Is | .ntn => .IsNot | .inn => .In | .nin => .NotIn
theorem deep_ok {A : Around} {a b : D} (hu : A.units + 64 < cLine) (h : deepOk a b = true) : A.units + min a.depth b.depth < cLine := by
  have h1 : min a.depth b.depth ≤ 60 := of_decide_eq_true h
  omega
theorem min_comm' (a b : Nat) : min a b = min b a := by omega
theorem notNon {a : D} (h : (!isNon a) = true) : a ≠ .none := by rintro rfl; simp [isNon] at h
theorem alike_none_r {a b : D} (h : PySem.W.alike a b = true) (hn : a ≠ .none) : b ≠ .none := by
  rintro rfl
  cases a <;> simp [PySem.W.alike] at h hn
theorem op_cmp (op : COp) (hu : X.A.units + 64 < cLine) : OpR X (compareOp (copOf op)) (rVal X.K 0 fun a b => (cmpD op a b).map .bool) := by
  intro pins s σ H x y v u Q I rx ry ⟨S, dx, dy, d, al, hx, hy, hf, q⟩
  obtain ⟨k, hk, rfl⟩ := Option.map_eq_some_iff.mp hf
  have fin : ∀ {k' : Bool} {s' : Shared}, Inv X pins σ H s' → k' = k → EP X pins σ Q (.bool k') s' := fun I' e => ⟨.bl k, H, I', by rw [e]; rfl, q _ _ Keep.refl (ResOk.zero (.bl k))⟩
  obtain ⟨as, ra⟩ := Rep.reads I hx rx
  obtain ⟨bs, rb⟩ := Rep.reads I hy ry
  have heq : ∀ {k}, eqD dx dy = some k → (dx.plain = true ∧ dy.plain = true) ∧ X.A.units + min dx.depth dy.depth < cLine ∧ PyData.eqv dx dy = k := fun {k} h => by
    simp only [eqD, Option.ite_none_right_eq_some, Bool.and_eq_true, Option.some.injEq] at h
    exact ⟨h.1.1, deep_ok hu h.1.2, h.2⟩
  have hlt : ∀ {a b k}, ltD a b = some k → PySem.W.alike a b = true ∧ a ≠ .none ∧ X.A.units + min a.depth b.depth < cLine ∧ PySem.W.dataLt a b = k := fun {a b k} h => by
    simp only [ltD, Option.ite_none_right_eq_some, Bool.and_eq_true, Option.some.injEq] at h
    exact ⟨h.1.1.1, notNon h.1.1.2, deep_ok hu h.1.2, h.2⟩
  cases op
  case eq =>
    obtain ⟨⟨h1, h2⟩, h3, h4⟩ := heq hk
    exact PySem.SeqAt.eq_plain ra rb h1 h2 h3 (fin I h4)
  case ne =>
    obtain ⟨k0, hk0, e⟩ := Option.map_eq_some_iff.mp hk
    obtain ⟨⟨h1, h2⟩, h3, h4⟩ := heq hk0
    exact PySem.SeqAt.ne_plain ra rb h1 h2 h3 (fin I (by rw [h4]; exact e))
  case lt =>
    obtain ⟨h1, h2, h3, h4⟩ := hlt hk
    exact PySem.W.lt_data ra rb h1 h2 h3 (fin I h4)
  case gt =>
    obtain ⟨h1, h2, h3, h4⟩ := hlt hk
    exact PySem.W.gt_data ra rb (by rw [PySem.W.alike_comm]; exact h1) (alike_none_r h1 h2) (by rw [min_comm']; exact h3) (fin I h4)
  case le =>
    obtain ⟨k0, hk0, e⟩ := Option.map_eq_some_iff.mp hk
    obtain ⟨h1, h2, h3, h4⟩ := hlt hk0
    exact PySem.W.le_data ra rb (by rw [PySem.W.alike_comm]; exact h1) (alike_none_r h1 h2) (by rw [min_comm']; exact h3) (fin I (by rw [h4]; exact e))
  case ge =>
    obtain ⟨k0, hk0, e⟩ := Option.map_eq_some_iff.mp hk
    obtain ⟨h1, h2, h3, h4⟩ := hlt hk0
    exact PySem.W.ge_data ra rb h1 h2 h3 (fin I (by rw [h4]; exact e))
  case isn =>
    simp only [cmpD, Option.ite_none_right_eq_some, Option.some.injEq] at hk
    have ey : dy = .none := by cases dy <;> simp_all [isNon]
    subst ey
    have e1 := rep_non hy; subst e1
    refine op_isN pins s σ H _ _ v u Q I rx ry ⟨rfl, ?_⟩
    have e2 : decide (x = V.non) = k := by rw [← hk.2]; cases hx <;> simp [isNon]
    rw [e2]
    exact q _ _ Keep.refl (ResOk.zero (.bl k))
  case ntn =>
    simp only [cmpD, Option.ite_none_right_eq_some, Option.some.injEq] at hk
    have ey : dy = .none := by cases dy <;> simp_all [isNon]
    subst ey
    have e1 := rep_non hy; subst e1
    refine op_notN pins s σ H _ _ v u Q I rx ry ⟨rfl, ?_⟩
    have e2 : (!decide (x = V.non)) = k := by rw [← hk.2]; cases hx <;> simp [isNon]
    rw [e2]
    exact q _ _ Keep.refl (ResOk.zero (.bl k))
  case inn =>
    cases dy <;> simp only [cmpD, inD, reduceCtorEq, Option.ite_none_right_eq_some, Bool.and_eq_true, Option.some.injEq] at hk
    · exact PySem.SeqAt.in_list_data rb ra hk.1.1.1 hk.1.1.2 (by have h1 : min _ _ ≤ 60 := of_decide_eq_true hk.1.2; simp only [PyData.depth] at h1; omega) (fin I hk.2)
    · exact PySem.SeqAt.in_tuple_data rb ra hk.1.1.1 hk.1.1.2 (by have h1 : min _ _ ≤ 60 := of_decide_eq_true hk.1.2; simp only [PyData.depth] at h1; omega) (fin I hk.2)
    · cases hy
  case nin =>
    obtain ⟨k0, hk0, e⟩ := Option.map_eq_some_iff.mp hk
    cases dy <;> simp only [inD, reduceCtorEq, Option.ite_none_right_eq_some, Bool.and_eq_true, Option.some.injEq] at hk0
    · exact PySem.SeqAt.notIn_list_data rb ra hk0.1.1.1 hk0.1.1.2 (by have h1 : min _ _ ≤ 60 := of_decide_eq_true hk0.1.2; simp only [PyData.depth] at h1; omega) (fin I (by rw [hk0.2]; exact e))
    · exact PySem.SeqAt.notIn_tuple_data rb ra hk0.1.1.1 hk0.1.1.2 (by have h1 : min _ _ ≤ 60 := of_decide_eq_true hk0.1.2; simp only [PyData.depth] at h1; omega) (fin I (by rw [hk0.2]; exact e))
    · cases hy
theorem atI_eq {α : Type} {xs : List α} {i : Int} {v : α} (h : atI xs i = some v) : ∃ j, ixN xs.length i = some j ∧ xs[j]? = some v := by
  unfold atI at h
  exact Option.bind_eq_some_iff.mp h
theorem atI_of {α : Type} {xs : List α} {i : Int} {v : α} {j : Nat} (h1 : ixN xs.length i = some j) (h2 : xs[j]? = some v) : atI xs i = some v := by
  unfold atI
  rw [h1]
  exact h2
theorem ix_val : IxR X (rVal X.K 0 idxD) := by
  intro value slice pins s σ H x y v u Q I rx ry ⟨S, dx, dy, d, al, hx, hy, hf, q⟩ hs
  cases hx
  case lst h r =>
    cases dy <;> simp only [idxD, reduceCtorEq] at hf
    have e1 := rep_int hy; subst e1
    obtain ⟨j, h1, h2⟩ := atI_eq hf
    obtain ⟨w, h3, h4⟩ := r.get h2
    exact ix_list value slice pins s σ H _ _ v u Q I rx ry ⟨_, _, _, w, rfl, rfl, h.sq, atI_of (by rw [r.length]; exact h1) h3, q _ _ Keep.refl (ResOk.zero h4)⟩ hs
  case tup h r =>
    cases dy <;> simp only [idxD, reduceCtorEq] at hf
    have e1 := rep_int hy; subst e1
    obtain ⟨j, h1, h2⟩ := atI_eq hf
    obtain ⟨w, h3, h4⟩ := r.get h2
    exact ix_tup value slice pins s σ H _ _ v u Q I rx ry ⟨_, _, _, w, rfl, rfl, h.sq, atI_of (by rw [r.length]; exact h1) h3, q _ _ Keep.refl (ResOk.zero h4)⟩ hs
  case str x =>
    cases dy <;> simp only [idxD, reduceCtorEq, Option.ite_none_right_eq_some, Option.map_eq_some_iff] at hf
    have e1 := rep_int hy; subst e1
    obtain ⟨hl, c, hc, rfl⟩ := hf
    exact ix_str value slice pins s σ H _ _ v u Q I rx ry ⟨_, _, c, rfl, rfl, str_len_le hl, hc, q _ _ Keep.refl (ResOk.zero (.str _))⟩ hs
  all_goals (cases dy <;> simp [idxD] at hf)
/-- a slice -/
def rSlV (K : Fr) : V → Option Int → Option Int → Hp → VK → Prop := fun x lo hi H Q => ∃ (S : Addr → Prop) (dx d : D), (∀ a, S a → H a ≠ none) ∧ Rep K H S x dx ∧ slcD dx lo hi = some d ∧ ∀ v H', Keep (fun _ => False) H H' → ResOk K H H' S 1 v d → Q v H'
theorem sl_val : SlR X (rSlV X.K) := by
  intro pins s σ H x v vl vu lo hi sl Q I rx hs pl pu ⟨S, dx, d, al, hx, hf, q⟩
  cases hx
  case lst h r =>
    simp only [slcD, Option.some.injEq] at hf
    subst hf
    exact sl_list pins s σ H _ v vl vu lo hi sl Q I rx hs pl pu ⟨_, _, rfl, h.sq, fun p hp => q _ _ (Keep.new hp) (res_newL al hp (r.cut lo hi))⟩
  case tup h r =>
    simp only [slcD, Option.some.injEq] at hf
    subst hf
    refine sl_tupA pins s σ H _ v vl vu lo hi sl Q I rx hs pl pu ⟨_, _, rfl, h.sq, fun hw => q _ _ Keep.refl (ResOk.atom ?_ fun _ e => nomatch e), fun _ p hp => q _ _ (Keep.new hp) (res_newT al hp (r.cut lo hi))⟩
    rename_i ds
    have e : cutL ds lo hi = ds := by
      unfold cutL
      rw [← r.length, hw.1, hw.2, List.drop_zero, Nat.sub_zero, r.length, List.take_length]
    rw [e]
    exact .tup h r
  all_goals simp [slcD] at hf
theorem tru_rep {K : Fr} {S : Addr → Prop} {x : V} {d : D} {k : Bool} (h : Rep K H S x d) (hk : truthD d = some k) : TruV K x H k := by
  cases h with
  | non => simp only [truthD, Option.some.injEq] at hk; exact hk.symm
  | bl b => simp only [truthD, Option.some.injEq] at hk; exact hk.symm
  | int i => simp only [truthD, Option.some.injEq] at hk; exact hk.symm
  | str x => simp only [truthD, Option.ite_none_right_eq_some, Option.some.injEq] at hk; exact ⟨str_len_le hk.1, hk.2.symm⟩
  | lst h r =>
    simp only [truthD, Option.some.injEq] at hk
    refine .inl ⟨_, h.sq, ?_⟩
    rw [← hk]
    cases r <;> rfl
  | tup h r =>
    simp only [truthD, Option.some.injEq] at hk
    refine .inr (.inl ⟨_, h.sq, ?_⟩)
    rw [← hk]
    cases r <;> rfl
end
end Cw
end

section
namespace Cw
open PySem PySem.Spec PyProof.Rows L2

section
variable {K : Fr} {A0 : Prot} {EA : EAt} {W : WX} {σ : L2.St} {Fs : List (Option Addr)} {H H' : Hp} {k ka kb kc : Nat}
theorem Pst.lift {α : Type} {o : Option α} {r : Env} {R : α → Env → Hp → Prop} (h : Pst K A0 EA W σ Fs H (lift o r) R) : ∃ d, o = some d ∧ R d r H := by
  cases o with
  | none => exact h.elim
  | some d => exact ⟨d, rfl, h⟩
theorem Pst.ok {α : Type} {a : α} {r : Env} {R : α → Env → Hp → Prop} (h : R a r H) : Pst K A0 EA W σ Fs H (.ok a r) R := h
theorem sub_in {Fs : List (Option Addr)} {A0 : Prot} : ∀ a, inF Fs a → Sv A0 Fs a := fun _ h => .inr h
theorem kf {M : Addr → Prop} {H H' : Hp} (h : Keep (fun _ => False) H H') : Keep M H H' := h.weak fun _ z => z.elim
/-- two operands, then a function of their values -/
theorem tv2 {f : D → D → Option D} {fa fb : Env → Out D} {Q : VK} (h : TEv K A0 EA W k (fun r => (fa r).bind fun x r1 => (fb r1).bind fun y r2 => lift (f x y) r2) σ H Q) :
    tOp (rVal K k f) (TEv K A0 EA W ka fa) (TEv K A0 EA W kb fb) σ H Q := by
  obtain ⟨r, Fs, G, h⟩ := h
  refine ⟨r, Fs, G, h.bind fun x r1 _ h1 => fun v1 H1 k1 G1 q1 => ⟨r1, Fs, G1, (h1.bind (R' := fun y r2 _ => ∃ d, f x y = some d ∧ ∀ v H', Keep (inF Fs) H H' → Good K A0 σ H' r2 Fs → ResOk K H H' (Sv A0 Fs) k v d → Q v H') fun y r2 _ h2 => h2.lift).later k1 fun y r2 ⟨d, hd, h3⟩ => fun v2 H2 k2 G2 q2 => ?_⟩⟩
  refine ⟨Sv A0 Fs, x, y, d, G2.alS, q1.1.keep k2 sub_in, q2.1, hd, fun v H3 k3 q3 => ?_⟩
  exact h3 v H3 ((k1.trans k2).trans (kf k3)) (G2.keep0 k3) (q3.back (k1.trans k2))
/-- one operand -/
def rV1 (K : Fr) (k : Nat) (f : D → Option D) : V → Hp → VK → Prop := fun x H Q => ∃ (S : Addr → Prop) (dx d : D), (∀ a, S a → H a ≠ none) ∧ Rep K H S x dx ∧ f dx = some d ∧
  ∀ v H', Keep (fun _ => False) H H' → ResOk K H H' S k v d → Q v H'
theorem tv1 {f : D → Option D} {fa : Env → Out D} {Q : VK} (h : TEv K A0 EA W k (fun r => (fa r).bind fun x r1 => lift (f x) r1) σ H Q) :
    TEv K A0 EA W ka fa σ H fun x H1 => rV1 K k f x H1 Q := by
  obtain ⟨r, Fs, G, h⟩ := h
  refine ⟨r, Fs, G, h.bind fun x r1 _ h1 => fun v1 H1 k1 G1 q1 => ?_⟩
  obtain ⟨d, hd, h2⟩ := h1.lift
  exact ⟨Sv A0 Fs, x, d, G1.alS, q1.1, hd, fun v H3 k3 q3 => h2 v H3 (k1.trans (kf k3)) (G1.keep0 k3) (q3.back k1)⟩
theorem TEv.mono {f : Env → Out D} {Q Q' : VK} (h : TEv K A0 EA W k f σ H Q) (i : ∀ v H', Q v H' → Q' v H') : TEv K A0 EA W k f σ H Q' := by
  obtain ⟨r, Fs, G, h⟩ := h
  refine ⟨r, Fs, G, ?_⟩
  show Pst K A0 EA W σ Fs H (f r) _
  cases e : f r with
  | ok d r' => rw [e] at h; exact fun v H' k1 G1 q => i _ _ (h v H' k1 G1 q)
  | exc x r' => rw [e] at h; exact h
  | bad => rw [e] at h; exact h
theorem TEv.down {j : Nat} {f : Env → Out D} (hj : j = 1 → k = 1) {Q : VK} (h : TEv K A0 EA W j f σ H Q) : TEv K A0 EA W k f σ H Q := by
  obtain ⟨r, Fs, G, h⟩ := h
  refine ⟨r, Fs, G, ?_⟩
  show Pst K A0 EA W σ Fs H (f r) _
  cases e : f r with
  | ok d r' => rw [e] at h; exact fun v H' k1 G1 q => h v H' k1 G1 (q.down hj)
  | exc x r' => rw [e] at h; exact h
  | bad => rw [e] at h; exact h
end
section
variable {X : Cx} {A0 : Prot} {EA : EAt} {W : WX} {k ka kb kc : Nat} {a b c e : Expr} {es : List Expr} {fa fb fc : Env → Out D} {pos : Pos}
theorem te_down {j : Nat} (hj : j = 1 → k = 1) (h : PE X e (TEv X.K A0 EA W k fa)) : PE X e (TEv X.K A0 EA W j fa) := PE.imp h fun _ _ _ q => q.down hj
theorem te_var {i : Nat} {x : Str} (hN : X.N[i]? = some x) (hv : Vis X.env.scope x) (hd : (x == ("__debug__" : Str)) = false) (hcd : (x == ("__classdict__" : Str)) = false) : PE X (.Name x pos) (TEv X.K A0 EA W 0 fun r => lift (getV r i) r) := by
  refine PE.imp (pe_var hN hv hd hcd) fun σ H Q ⟨r, Fs, G, h⟩ => ?_
  obtain ⟨d, hd, h⟩ := h.lift
  have e : r[i]? = some (.val d) := by
    unfold getV at hd
    split at hd
    · cases hd; assumption
    · cases hd
  obtain ⟨v, hv, q⟩ := G.val i d e
  exact ⟨v, hv, h v H Keep.refl G (ResOk.zero q)⟩
theorem te_con {v : V} {d : D} (h : PE X e (tC v)) (hr : ∀ (H : Hp) S, Rep X.K H S v d) (hd : ∀ ds, d ≠ .list ds) : PE X e (TEv X.K A0 EA W k fun r => .ok d r) :=
  PE.imp h fun σ H Q ⟨r, Fs, G, q⟩ => q v H Keep.refl G (ResOk.atom (hr _ _) hd)
theorem te_int {i : Int} {j : Nat} : PE X (.Constant (.int i) j pos) (TEv X.K A0 EA W k fun r => .ok (.int i) r) := te_con pe_int (fun _ _ => .int i) fun _ e => nomatch e
theorem te_bl {i : Bool} {j : Nat} : PE X (.Constant (.bool i) j pos) (TEv X.K A0 EA W k fun r => .ok (.bool i) r) := te_con pe_bl (fun _ _ => .bl i) fun _ e => nomatch e
theorem te_str {i : Str} {j : Nat} : PE X (.Constant (.str i) j pos) (TEv X.K A0 EA W k fun r => .ok (.str i) r) := te_con pe_str (fun _ _ => .str i) fun _ e => nomatch e
theorem te_non {j : Nat} : PE X (.Constant .none j pos) (TEv X.K A0 EA W k fun r => .ok .none r) := te_con pe_non (fun _ _ => .non) fun _ e => nomatch e
theorem te_bin {op : BOp} (ha : PE X a (TEv X.K A0 EA W ka fa)) (hb : PE X b (TEv X.K A0 EA W kb fb)) : PE X (.BinOp a (opOf op) b pos) (TEv X.K A0 EA W 1 fun r => (fa r).bind fun x r1 => (fb r1).bind fun y r2 => lift (binD op x y) r2) :=
  PE.imp (pe_op (op_bin op) ha hb) fun _ _ _ q => tv2 q
theorem nobeh {op : COp} {e : Expr} (h : (op = .inn ∨ op = .nin) → ∀ es k p, e ≠ .Set es k p) : behindInMarks (copOf op) e = false := by
  by_cases ho : op = .inn ∨ op = .nin
  · cases e <;> first | rfl | exact absurd rfl (h ho _ _ _)
  · exact nomark e (by cases op <;> simp [copOf] at ho ⊢) (by cases op <;> simp [copOf] at ho ⊢)
theorem te_cmp {op : COp} (hu : X.A.units + 64 < cLine) (ha : PE X a (TEv X.K A0 EA W ka fa)) (hb : PE X b (TEv X.K A0 EA W kb fb)) (hs : ∀ es k p, b ≠ .Set es k p) :
    PE X (.Compare a [copOf op] [b] pos) (TEv X.K A0 EA W 0 fun r => (fa r).bind fun x r1 => (fb r1).bind fun y r2 => lift ((cmpD op x y).map .bool) r2) :=
  PE.imp (pe_cmpR (op_cmp op hu) ha hb (nobeh fun _ => hs)) fun _ _ _ q => tv2 q
theorem te_neg (ha : PE X a (TEv X.K A0 EA W ka fa)) : PE X (.UnaryOp .USub a pos) (TEv X.K A0 EA W 0 fun r => (fa r).bind fun x r1 => lift ((isInt x).map fun i => .int (-i)) r1) := by
  refine PE.imp (pe_un un_neg ha) fun σ H Q q => (tv1 (f := fun x => (isInt x).map fun i => .int (-i)) (ka := ka) q).mono fun x H1 h => ?_
  obtain ⟨S, dx, d, al, hx, hf, q⟩ := h
  obtain ⟨i, hi, rfl⟩ := Option.map_eq_some_iff.mp hf
  cases dx <;> simp only [isInt, reduceCtorEq, Option.some.injEq] at hi
  subst hi
  exact ⟨_, rep_int hx, q _ _ Keep.refl (ResOk.zero (.int _))⟩
theorem te_idx (ha : PE X a (TEv X.K A0 EA W ka fa)) (hb : PE X b (TEv X.K A0 EA W kb fb)) (hs : PlainIx b) : PE X (.Subscript a b pos) (TEv X.K A0 EA W 0 fun r => (fa r).bind fun x r1 => (fb r1).bind fun y r2 => lift (idxD x y) r2) :=
  PE.imp (pe_ix ix_val ha hb hs) fun _ _ _ q => tv2 q
/-- a value's truth -/
theorem tt_val (ha : PE X a (TEv X.K A0 EA W ka fa)) (he : ∀ whole, isTrue a X.env whole = (do let v ← whole; standAt a.pos; holding [v] (truthy v))) : PT X a (TTv X.K A0 EA W fun r => tru (fa r)) := by
  refine PT.imp (pt_truth ha he) fun σ H Q ⟨r, Fs, G, h⟩ => ?_
  refine ⟨r, Fs, G, h.bind fun x r1 _ h1 => fun v1 H1 k1 G1 q1 => ?_⟩
  obtain ⟨k, hk, h2⟩ := h1.lift
  exact ⟨k, tru_rep q1.1 hk, h2 H1 k1 G1⟩
/-- a comparison's value is a bool -/
theorem tt_cmp {op : COp} (hu : X.A.units + 64 < cLine) (ha : PE X a (TEv X.K A0 EA W ka fa)) (hb : PE X b (TEv X.K A0 EA W kb fb)) (hs : ∀ es k p, b ≠ .Set es k p) :
    PT X (.Compare a [copOf op] [b] pos) (TTv X.K A0 EA W fun r => tru ((fa r).bind fun x r1 => (fb r1).bind fun y r2 => lift ((cmpD op x y).map .bool) r2)) := by
  refine PT.imp (pt_cmpR (op_cmp op hu) ha hb (nobeh fun _ => hs)) fun σ H Q ⟨r, Fs, G, h⟩ => ?_
  refine tv2 (k := 0) (f := fun a b => (cmpD op a b).map .bool) (ka := ka) (kb := kb) ⟨r, Fs, G, ?_⟩
  refine h.bind fun d r2 e h1 => fun v H' k1 G1 q1 => ?_
  obtain ⟨b, hb, h2⟩ := h1.lift
  have ed : ∃ b', d = .bool b' := by
    cases e1 : fa r with
    | ok x r1 =>
      simp only [e1, Out.bind] at e
      cases e2 : fb r1 with
      | ok y r3 =>
        simp only [e2] at e
        cases e3 : cmpD op x y with
        | none => simp [e3, Cw.lift] at e
        | some b' => simp only [e3, Cw.lift, Option.map_some, Out.ok.injEq] at e; exact ⟨b', e.1.symm⟩
      | exc _ _ => simp [e2] at e
      | bad => simp [e2] at e
    | exc _ _ => simp [e1, Out.bind] at e
    | bad => simp [e1, Out.bind] at e
  obtain ⟨b', rfl⟩ := ed
  simp only [truthD, Option.some.injEq] at hb
  subst hb
  exact ⟨b', rep_bl q1.1, h2 H' k1 G1⟩
theorem tt_not {f : Env → Out Bool} (ha : PT X a (TTv X.K A0 EA W f)) : PT X (.UnaryOp .Not a pos) (TTv X.K A0 EA W fun r => (f r).bind fun k r1 => .ok (!k) r1) :=
  PT.imp (pt_not ha) fun σ H Q ⟨r, Fs, G, h⟩ => ⟨r, Fs, G, h.bind fun b r1 _ h1 => h1⟩
theorem tt_and {f g : Env → Out Bool} (ha : PT X a (TTv X.K A0 EA W f)) (hb : PW X (.BoolOp .And (b :: es) pos) (TTv X.K A0 EA W g)) : PW X (.BoolOp .And (a :: b :: es) pos) (TTv X.K A0 EA W fun r => (f r).bind fun k r1 => if k then g r1 else .ok false r1) := by
  refine ⟨fun whole pins s σ H Q I ⟨r, Fs, G, h⟩ => (pw_and ha hb).run whole pins s σ H Q I ⟨r, Fs, G, h.bind fun k r1 _ h1 => fun H1 k1 G1 => ?_⟩⟩
  cases k with
  | true =>
    rw [if_pos rfl]
    exact ⟨r1, Fs, G1, (show Pst X.K A0 EA W σ Fs H (g r1) _ from h1).later k1 fun b r2 h2 => fun H' k2 G2 => h2 H' (k1.trans k2) G2⟩
  | false =>
    rw [if_neg Bool.false_ne_true]
    exact h1 H1 k1 G1
theorem tt_or {f g : Env → Out Bool} (ha : PT X a (TTv X.K A0 EA W f)) (hb : PW X (.BoolOp .Or (b :: es) pos) (TTv X.K A0 EA W g)) : PW X (.BoolOp .Or (a :: b :: es) pos) (TTv X.K A0 EA W fun r => (f r).bind fun k r1 => if k then .ok true r1 else g r1) := by
  refine ⟨fun whole pins s σ H Q I ⟨r, Fs, G, h⟩ => (pw_or ha hb).run whole pins s σ H Q I ⟨r, Fs, G, h.bind fun k r1 _ h1 => fun H1 k1 G1 => ?_⟩⟩
  cases k with
  | true =>
    rw [if_pos rfl]
    exact h1 H1 k1 G1
  | false =>
    rw [if_neg Bool.false_ne_true]
    exact ⟨r1, Fs, G1, (show Pst X.K A0 EA W σ Fs H (g r1) _ from h1).later k1 fun b r2 h2 => fun H' k2 G2 => h2 H' (k1.trans k2) G2⟩
theorem te_ite {f : Env → Out Bool} (hc : PT X c (TTv X.K A0 EA W f)) (ha : PE X a (TEv X.K A0 EA W k fa)) (hb : PE X b (TEv X.K A0 EA W k fb)) : PE X (.IfExp c a b pos) (TEv X.K A0 EA W k fun r => (f r).bind fun t r1 => if t then fa r1 else fb r1) := by
  refine PE.imp (pe_ifExp hc ha hb) fun σ H Q ⟨r, Fs, G, h⟩ => ⟨r, Fs, G, h.bind fun t r1 _ h1 => fun H1 k1 G1 => ?_⟩
  cases t with
  | true =>
    rw [if_pos rfl]
    exact ⟨r1, Fs, G1, (show Pst X.K A0 EA W σ Fs H (fa r1) _ from h1).later k1 fun b r2 h2 => fun v H' k2 G2 q => h2 v H' (k1.trans k2) G2 (q.back k1)⟩
  | false =>
    rw [if_neg Bool.false_ne_true]
    exact ⟨r1, Fs, G1, (show Pst X.K A0 EA W σ Fs H (fb r1) _ from h1).later k1 fun b r2 h2 => fun v H' k2 G2 q => h2 v H' (k1.trans k2) G2 (q.back k1)⟩
theorem te_and (ha : PE X a (TEv X.K A0 EA W ka fa)) (hb : PE X (.BoolOp .And (b :: es) pos) (TEv X.K A0 EA W 0 fb)) : PE X (.BoolOp .And (a :: b :: es) pos) (TEv X.K A0 EA W 0 fun r => (fa r).bind fun x r1 => (lift (truthD x) r1).bind fun t r2 => if t then fb r2 else .ok x r2) := by
  refine PE.imp (pe_andT ha hb) fun σ H Q ⟨r, Fs, G, h⟩ => ⟨r, Fs, G, h.bind fun x r1 _ h1 => fun v H1 k1 G1 q1 => ?_⟩
  cases ht : truthD x with
  | none => rw [ht] at h1; exact h1.elim
  | some t =>
    rw [ht] at h1
    refine ⟨t, tru_rep q1.1 ht, ?_⟩
    cases t with
    | true =>
      rw [if_pos rfl]
      exact ⟨r1, Fs, G1, (show Pst X.K A0 EA W σ Fs H (fb r1) _ from h1).later k1 fun b r2 h2 => fun v H' k2 G2 q => h2 v H' (k1.trans k2) G2 (q.back k1)⟩
    | false =>
      rw [if_neg Bool.false_ne_true]
      exact h1 v H1 k1 G1 (ResOk.zero q1.1)
theorem te_or (ha : PE X a (TEv X.K A0 EA W ka fa)) (hb : PE X (.BoolOp .Or (b :: es) pos) (TEv X.K A0 EA W 0 fb)) : PE X (.BoolOp .Or (a :: b :: es) pos) (TEv X.K A0 EA W 0 fun r => (fa r).bind fun x r1 => (lift (truthD x) r1).bind fun t r2 => if t then .ok x r2 else fb r2) := by
  refine PE.imp (pe_orT ha hb) fun σ H Q ⟨r, Fs, G, h⟩ => ⟨r, Fs, G, h.bind fun x r1 _ h1 => fun v H1 k1 G1 q1 => ?_⟩
  cases ht : truthD x with
  | none => rw [ht] at h1; exact h1.elim
  | some t =>
    rw [ht] at h1
    refine ⟨t, tru_rep q1.1 ht, ?_⟩
    cases t with
    | true =>
      rw [if_pos rfl]
      exact h1 v H1 k1 G1 (ResOk.zero q1.1)
    | false =>
      rw [if_neg Bool.false_ne_true]
      exact ⟨r1, Fs, G1, (show Pst X.K A0 EA W σ Fs H (fb r1) _ from h1).later k1 fun b r2 h2 => fun v H' k2 G2 q => h2 v H' (k1.trans k2) G2 (q.back k1)⟩
theorem te_one {op : BoolOp} (ha : PE X a (TEv X.K A0 EA W k fa)) : PE X (.BoolOp op [a] pos) (TEv X.K A0 EA W k fa) := pe_one ha
theorem te_not (ha : PE X a (TEv X.K A0 EA W ka fa)) : PE X (.UnaryOp .Not a pos) (TEv X.K A0 EA W 0 fun r => (fa r).bind fun x r1 => lift ((truthD x).map fun t => .bool (!t)) r1) := by
  refine PE.imp (pe_notT ha) fun σ H Q q => (tv1 (f := fun x => (truthD x).map fun t => .bool (!t)) (ka := ka) q).mono fun x H1 h => ?_
  obtain ⟨S, dx, d, al, hx, hf, q⟩ := h
  obtain ⟨t, ht, rfl⟩ := Option.map_eq_some_iff.mp hf
  exact ⟨t, tru_rep hx ht, q _ _ Keep.refl (ResOk.zero (.bl _))⟩
theorem ta_nil : PA X [] (TAv X.K A0 EA W fun r => .ok [] r) := PA.imp pa_nil fun σ H Q ⟨r, Fs, G, h⟩ => h [] H Keep.refl G .nil
theorem ta_cons {fs : Env → Out (List D)} (ha : PE X e (TEv X.K A0 EA W k fa)) (hr : PA X es (TAv X.K A0 EA W fs)) (hs : starEach (e :: es) X.env = (false, eval e X.env) :: starEach es X.env) :
    PA X (e :: es) (TAv X.K A0 EA W fun r => (fa r).bind fun d r1 => (fs r1).bind fun ds r2 => .ok (d :: ds) r2) := by
  refine PA.imp (pa_cons ha hr hs) fun σ H Q ⟨r, Fs, G, h⟩ => ⟨r, Fs, G, h.bind fun x r1 _ h1 => fun v1 H1 k1 G1 q1 => ⟨r1, Fs, G1, ?_⟩⟩
  refine (h1.bind (R' := fun ds r2 _ => ∀ vs H', Keep (inF Fs) H H' → Good X.K A0 σ H' r2 Fs → Reps X.K H' (Sv A0 Fs) vs (x :: ds) → Q vs H') fun ds r2 _ h2 => h2).later k1 fun ds r2 h3 => fun vs H2 k2 G2 q2 => ?_
  exact h3 (v1 :: vs) H2 (k1.trans k2) G2 (.cons (q1.1.keep k2 sub_in) q2)
theorem te_tup {j : Nat} {fs : Env → Out (List D)} (h : PA X es (TAv X.K A0 EA W fs)) : PE X (.Tuple es j pos) (TEv X.K A0 EA W 0 fun r => (fs r).bind fun ds r' => if ds.length ≤ LIM then .ok (.tuple ds) r' else .bad) := by
  refine PE.imp (pe_tup h) fun σ H Q ⟨r, Fs, G, h⟩ => ⟨r, Fs, G, h.bind fun ds r1 _ h1 => fun vs H1 k1 G1 q1 => ?_⟩
  by_cases hl : ds.length ≤ LIM
  · rw [if_pos hl] at h1
    refine ⟨by rw [q1.length, ← LIM_eq]; exact hl, fun p hp => ?_⟩
    exact h1 _ _ (k1.trans (Keep.new hp)) (G1.keep0 (Keep.new hp)) ((res_newT G1.alS hp q1).back k1)
  · rw [if_neg hl] at h1; exact h1.elim
theorem te_lst {fs : Env → Out (List D)} (h : PA X es (TAv X.K A0 EA W fs)) : PE X (.List es pos) (TEv X.K A0 EA W 1 fun r => (fs r).bind fun ds r' => if ds.length ≤ LIM then .ok (.list ds) r' else .bad) := by
  refine PE.imp (pe_lst h) fun σ H Q ⟨r, Fs, G, h⟩ => ⟨r, Fs, G, h.bind fun ds r1 _ h1 => fun vs H1 k1 G1 q1 => ?_⟩
  by_cases hl : ds.length ≤ LIM
  · rw [if_pos hl] at h1
    refine ⟨by rw [q1.length, ← LIM_eq]; exact hl, fun p hp => ?_⟩
    exact h1 _ _ (k1.trans (Keep.new hp)) (G1.keep0 (Keep.new hp)) ((res_newL G1.alS hp q1).back k1)
  · rw [if_neg hl] at h1; exact h1.elim
end
end Cw
end

section
namespace Cw
open PySem PySem.Spec PyProof.Rows L2

def rCV (K : Fr) (k : Nat) (f : List D → Option D) : List V → Hp → VK → Prop := fun vs H Q => ∃ (S : Addr → Prop) (ds : List D) (d : D), (∀ a, S a → H a ≠ none) ∧ Reps K H S vs ds ∧ f ds = some d ∧
  ∀ v H', Keep (fun _ => False) H H' → ResOk K H H' S k v d → Q v H'
section
variable {K : Fr} {H : Hp} {S : Addr → Prop} {X : Cx} {pins : List (Addr × Obj)} {σ : L2.St} {s : Shared}
theorem reps1 {vs : List V} {d : D} (h : Reps K H S vs [d]) : ∃ v, vs = [v] ∧ Rep K H S v d := by
  cases h with | cons h r => cases r; exact ⟨_, rfl, h⟩
theorem reps2 {vs : List V} {d e : D} (h : Reps K H S vs [d, e]) : ∃ v w, vs = [v, w] ∧ Rep K H S v d ∧ Rep K H S w e := by
  cases h with | cons h r => obtain ⟨w, rfl, q⟩ := reps1 r; exact ⟨_, _, rfl, h, q⟩
theorem reps3 {vs : List V} {d e f : D} (h : Reps K H S vs [d, e, f]) : ∃ v w x, vs = [v, w, x] ∧ Rep K H S v d ∧ Rep K H S w e ∧ Rep K H S x f := by
  cases h with | cons h r => obtain ⟨w, x, rfl, q⟩ := reps2 r; exact ⟨_, _, _, rfl, h, q⟩
theorem reps4 {vs : List V} {d e f g : D} (h : Reps K H S vs [d, e, f, g]) : ∃ v w x y, vs = [v, w, x, y] ∧ Rep K H S v d ∧ Rep K H S w e ∧ Rep K H S x f ∧ Rep K H S y g := by
  cases h with | cons h r => obtain ⟨w, x, y, rfl, q⟩ := reps3 r; exact ⟨_, _, _, _, rfl, h, q⟩
theorem ints_vals : ∀ {ds : List D} {ns : List Int} {xs : List V}, intsD ds = some ns → Reps K H S xs ds → xs = ns.map V.int
  | [], ns, xs, h, r => by cases r; simp [intsD] at h; subst h; rfl
  | d :: ds, ns, xs, h, r => by
    cases r with
    | cons r1 r2 =>
      cases d <;> simp only [intsD, reduceCtorEq, Option.map_eq_some_iff] at h
      obtain ⟨ms, h1, rfl⟩ := h
      rw [rep_int r1, ints_vals h1 r2]
      rfl
theorem bls_vals : ∀ {ds : List D} {ns : List Bool} {xs : List V}, bls ds = some ns → Reps K H S xs ds → xs = ns.map V.bl
  | [], ns, xs, h, r => by cases r; simp [bls] at h; subst h; rfl
  | d :: ds, ns, xs, h, r => by
    cases r with
    | cons r1 r2 =>
      cases d <;> simp only [bls, reduceCtorEq, Option.map_eq_some_iff] at h
      obtain ⟨ms, h1, rfl⟩ := h
      rw [rep_bl r1, bls_vals h1 r2]
      rfl
theorem alike_all {xs : List D} (h : (xs.all fun x => xs.all fun y => PySem.W.alike x y) = true) : ∀ x ∈ xs, ∀ y ∈ xs, PySem.W.alike x y = true := by
  simpa [List.all_eq_true] using h
theorem alikeAll_of {xs : List D} (h : alikeAllB xs = true) : PySem.W.AlikeAll xs ∧ PyData.depthAll xs ≤ 60 := by
  simp only [alikeAllB, Bool.and_eq_true] at h
  obtain ⟨⟨h1, h2⟩, h3⟩ := h
  exact ⟨⟨alike_all h1, fun x hx => notNon (List.all_eq_true.mp h2 x hx)⟩, of_decide_eq_true h3⟩
theorem fold_mem {f : D → D → D} (hf : ∀ a b, f a b = a ∨ f a b = b) : ∀ (xs : List D) (x : D), xs.foldl f x ∈ x :: xs
  | [], x => by simp
  | y :: ys, x => by
    have h := fold_mem hf ys (f x y)
    rw [List.foldl_cons]
    rcases List.mem_cons.mp h with h | h
    · rw [h]
      rcases hf x y with e | e <;> rw [e] <;> simp
    · exact List.mem_cons_of_mem _ (List.mem_cons_of_mem _ h)
theorem minD_mem (x : D) (xs : List D) : PySem.W.minD x xs ∈ x :: xs := fold_mem (f := fun a y => if PySem.W.dataLt y a then y else a) (fun a b => by split <;> simp) xs x
theorem maxD_mem (x : D) (xs : List D) : PySem.W.maxD x xs ∈ x :: xs := fold_mem (f := fun a y => if PySem.W.dataLt a y then y else a) (fun a b => by split <;> simp) xs x
/-- the item that reads as one of alike items is that one -/
theorem pick_rep (I : Inv X pins σ H s) {ds : List D} {xs : List V} {its : List Value} (r : Reps X.K H S xs ds) (rv : Vals xs its) {i : Nat} {v : Value} {d : D} {bs : List Addr} {h' : Heap}
    (al : ∀ x ∈ ds, ∀ y ∈ ds, PySem.W.alike x y = true) (hm : d ∈ ds) (hv : its[i]? = some v) (hk : ∀ b o, s.heap.get? b = some o → h'.get? b = some o) (hr : Reads h' v d bs) : ∃ x, RelV x v ∧ Rep X.K H S x d := by
  have hi : i < xs.length := by rw [rv.length]; exact (List.getElem?_eq_some_iff.mp hv).1
  obtain ⟨u, h1, h2⟩ := rv.get (List.getElem?_eq_getElem hi)
  rw [hv] at h1; cases h1
  obtain ⟨d', h3, h4⟩ := r.getV (List.getElem?_eq_getElem hi)
  obtain ⟨as, h5⟩ := Rep.reads I h4 h2
  have e : d' = d := PySem.W.alike_unique d' d v as bs (al _ (List.mem_of_getElem? h3) _ hm) (PySem.W.reads_keeps hk h5) hr
  exact ⟨_, h2, e ▸ h4⟩
def biVal : Bi → Value
  | .len => .builtin "len" | .int => .type "int" | .list => .type "list" | .tuple => .type "tuple" | .sum => .builtin "sum"
  | .min1 => .builtin "min" | .max1 => .builtin "max" | .sorted => .builtin "sorted" | .all => .builtin "all" | .any => .builtin "any" | .abs => .builtin "abs" | .min2 => .builtin "min" | .max2 => .builtin "max" | .min3 => .builtin "min" | .max3 => .builtin "max" | .max4 => .builtin "max"
theorem eachIs_of {R : Value → D → Prop} : ∀ {ds : List D} {us : List Value} {xs : List V}, Vals xs us → Reps K H S xs ds → (∀ x u d, RelV x u → Rep K H S x d → R u d) → PySem.W.EachIs R us ds
  | [], _, _, rv, r, _ => by cases r; cases rv; exact .nil
  | d :: ds, _, _, rv, r, h => by
    cases r with
    | cons r1 r2 => cases rv with
      | cons v1 v2 => exact .cons (h _ _ _ v1 r1) (eachIs_of v2 r2 h)
theorem of_eachIs : ∀ {ds : List D} {us : List Value}, PySem.W.EachIs (fun u d => ∃ x, RelV x u ∧ Rep K H S x d) us ds → ∃ xs, Vals xs us ∧ Reps K H S xs ds
  | [], _, h => by cases h; exact ⟨[], .nil, .nil⟩
  | d :: ds, _, h => by
    cases h with
    | cons h1 h2 =>
      obtain ⟨x, a, b⟩ := h1
      obtain ⟨xs, c, e⟩ := of_eachIs h2
      exact ⟨x :: xs, .cons a c, .cons b e⟩
theorem depth_mem {xs : List D} {x : D} (h : x ∈ xs) : x.depth ≤ PyData.depthAll xs := by
  induction xs with
  | nil => cases h
  | cons y ys ih =>
    rcases List.mem_cons.mp h with e | h
    · subst e; exact Nat.le_max_left _ _
    · exact Nat.le_trans (ih h) (Nat.le_max_right _ _)
def frBi : Bi → Nat | .list | .sorted => 1 | _ => 0
theorem call_bi (b : Bi) (hc : X.calm = true) (hu : X.A.units + 70 < cLine) : CallR X (biVal b) (rCV X.K (frBi b) (biD b)) := by
  intro pins s σ H vs us Q I rv ⟨S, ds, d, al, rs, hf, q⟩
  have hint : ∀ {i : Int} {s' : Shared} {u : Value}, d = .int i → Inv X pins σ H s' → (∃ t, u = .int i t) → EP X pins σ Q u s' := fun {i s' u} e I' hu => ⟨.int i, H, I', hu, q _ _ Keep.refl (ResOk.atom (by rw [e]; exact .int i) (by rw [e]; exact fun _ z => nomatch z))⟩
  have hQi : ∀ {i : Int}, d = .int i → Q (.int i) H := fun {i} e => q _ _ Keep.refl (ResOk.atom (by rw [e]; exact .int i) (by rw [e]; exact fun _ z => nomatch z))
  have hQb : ∀ {i : Bool}, d = .bool i → Q (.bl i) H := fun {i} e => q _ _ Keep.refl (ResOk.atom (by rw [e]; exact .bl i) (by rw [e]; exact fun _ z => nomatch z))
  cases b
  case len =>
    match ds, hf with
    | [a], hf =>
      obtain ⟨x, rfl, rx⟩ := reps1 rs
      simp only [biD, Option.map_eq_some_iff] at hf
      obtain ⟨n, hn, rfl⟩ := hf
      cases rx <;> simp only [lenD, reduceCtorEq, Option.some.injEq, Option.ite_none_right_eq_some] at hn
      case str x => exact call_len_str pins s σ H _ us Q I rv ⟨x, rfl, str_len_le hn.1, by rw [hn.2]; exact hQi rfl⟩
      case lst h r => exact call_len_seq pins s σ H _ us Q I rv ⟨_, _, rfl, .inl h.sq, by rw [r.length, hn]; exact hQi rfl⟩
      case tup h r => exact call_len_seq pins s σ H _ us Q I rv ⟨_, _, rfl, .inr h.sq, by rw [r.length, hn]; exact hQi rfl⟩
  case int =>
    match ds, hf with
    | [.int i], hf =>
      obtain ⟨x, rfl, rx⟩ := reps1 rs
      simp only [biD, Option.some.injEq] at hf
      subst hf
      rw [rep_int rx] at rv
      exact call_int1 pins s σ H _ us Q I rv (.inl ⟨i, rfl, hQi rfl⟩)
  case list =>
    match ds, hf with
    | [.list xs], hf =>
      obtain ⟨x, rfl, rx⟩ := reps1 rs
      simp only [biD, Option.some.injEq] at hf
      subst hf
      obtain ⟨a, ys, rfl, la, ra⟩ := rep_lst rx
      exact call_list_of pins s σ H _ us Q I rv ⟨a, ys, rfl, .inl la.sq, fun l hl => q _ _ (Keep.new hl) (res_newL al hl ra)⟩
    | [.tuple xs], hf =>
      obtain ⟨x, rfl, rx⟩ := reps1 rs
      simp only [biD, Option.some.injEq] at hf
      subst hf
      obtain ⟨a, ys, rfl, la, ra⟩ := rep_tup rx
      exact call_list_of pins s σ H _ us Q I rv ⟨a, ys, rfl, .inr la.sq, fun l hl => q _ _ (Keep.new hl) (res_newL al hl ra)⟩
  case tuple =>
    match ds, hf with
    | [.list xs], hf =>
      obtain ⟨x, rfl, rx⟩ := reps1 rs
      simp only [biD, Option.some.injEq] at hf
      subst hf
      obtain ⟨a, ys, rfl, la, ra⟩ := rep_lst rx
      exact call_tuple_of pins s σ H _ us Q I rv ⟨a, ys, rfl, .inl ⟨la.sq, fun l hl => q _ _ (Keep.new hl) (res_newT al hl ra)⟩⟩
    | [.tuple xs], hf =>
      obtain ⟨x, rfl, rx⟩ := reps1 rs
      simp only [biD, Option.some.injEq] at hf
      subst hf
      obtain ⟨a, ys, rfl, la, ra⟩ := rep_tup rx
      exact call_tuple_of pins s σ H _ us Q I rv ⟨a, ys, rfl, .inr ⟨la.sq, q _ _ Keep.refl (ResOk.atom rx fun _ e => nomatch e)⟩⟩
  case sum =>
    match ds, hf with
    | [.list xs], hf =>
      obtain ⟨x, rfl, rx⟩ := reps1 rs
      simp only [biD, Option.map_eq_some_iff] at hf
      obtain ⟨ns, hn, rfl⟩ := hf
      obtain ⟨a, ys, rfl, la, ra⟩ := rep_lst rx
      have e := ints_vals hn ra
      subst e
      exact cr_sum hc pins s σ H _ us Q I rv ⟨a, ns, rfl, la.sq, hQi rfl⟩
    | [.tuple xs], hf =>
      obtain ⟨x, rfl, rx⟩ := reps1 rs
      simp only [biD, Option.map_eq_some_iff] at hf
      obtain ⟨ns, hn, rfl⟩ := hf
      obtain ⟨a, ys, rfl, la, ra⟩ := rep_tup rx
      have e := ints_vals hn ra
      subst e
      obtain ⟨its, rt, ht, _⟩ := I.tuple la.sq
      rw [Vals.ref1 rv]
      have hi := rt.ints
      obtain ⟨zs, hx⟩ := hi.allInts.items
      have hn2 : numsOf (intItems zs).toList = ns := by rw [← hx]; exact hi.numsOf
      rw [nums_intItems] at hn2
      rw [hx] at ht
      refine PySem.W.ktm_sumG (I.ok.hd hc) ht fun h' tk t' hk => ?_
      refine hint (i := ns.sum) rfl (I.kept hk) ⟨t', ?_⟩
      rw [preSum_eq, List.take_of_length_le (by simp), hn2]
  case min1 =>
    match ds, hf with
    | [.list (y :: xs)], hf =>
      obtain ⟨x, rfl, rx⟩ := reps1 rs
      simp only [biD, Option.ite_none_right_eq_some, Option.some.injEq] at hf
      obtain ⟨ha, rfl⟩ := hf
      obtain ⟨h1, h2⟩ := alikeAll_of ha
      obtain ⟨a, ys, rfl, la, ra⟩ := rep_lst rx
      obtain ⟨its, rt, ht, _⟩ := I.list la.sq
      rw [Vals.ref1 rv]
      obtain ⟨as, hr⟩ := Reps.reads I ra rt
      refine PySem.W.min_list_data (I.ok.hd hc) ht.isList (by simpa using hr) h1 (by omega) fun i v h' tk bs hv hrd hk => ?_
      obtain ⟨w, hw, rw'⟩ := pick_rep I ra rt h1.1 (minD_mem y xs) (by simpa using hv) hk hrd
      exact ⟨w, H, I.kept hk, hw, q _ _ Keep.refl (ResOk.zero rw')⟩
    | [.tuple (y :: xs)], hf =>
      obtain ⟨x, rfl, rx⟩ := reps1 rs
      simp only [biD, Option.ite_none_right_eq_some, Option.some.injEq] at hf
      obtain ⟨ha, rfl⟩ := hf
      obtain ⟨h1, h2⟩ := alikeAll_of ha
      obtain ⟨a, ys, rfl, la, ra⟩ := rep_tup rx
      obtain ⟨its, rt, ht, _⟩ := I.tuple la.sq
      rw [Vals.ref1 rv]
      obtain ⟨as, hr⟩ := Reps.reads I ra rt
      refine PySem.W.min_tuple_data (I.ok.hd hc) ht (by simpa using hr) h1 (by omega) fun i v h' tk bs hv hrd hk => ?_
      obtain ⟨w, hw, rw'⟩ := pick_rep I ra rt h1.1 (minD_mem y xs) (by simpa using hv) hk hrd
      exact ⟨w, H, I.kept hk, hw, q _ _ Keep.refl (ResOk.zero rw')⟩
  case max1 =>
    match ds, hf with
    | [.list (y :: xs)], hf =>
      obtain ⟨x, rfl, rx⟩ := reps1 rs
      simp only [biD, Option.ite_none_right_eq_some, Option.some.injEq] at hf
      obtain ⟨ha, rfl⟩ := hf
      obtain ⟨h1, h2⟩ := alikeAll_of ha
      obtain ⟨a, ys, rfl, la, ra⟩ := rep_lst rx
      obtain ⟨its, rt, ht, _⟩ := I.list la.sq
      rw [Vals.ref1 rv]
      obtain ⟨as, hr⟩ := Reps.reads I ra rt
      refine PySem.W.max_list_data (I.ok.hd hc) ht.isList (by simpa using hr) h1 (by omega) fun i v h' tk bs hv hrd hk => ?_
      obtain ⟨w, hw, rw'⟩ := pick_rep I ra rt h1.1 (maxD_mem y xs) (by simpa using hv) hk hrd
      exact ⟨w, H, I.kept hk, hw, q _ _ Keep.refl (ResOk.zero rw')⟩
    | [.tuple (y :: xs)], hf =>
      obtain ⟨x, rfl, rx⟩ := reps1 rs
      simp only [biD, Option.ite_none_right_eq_some, Option.some.injEq] at hf
      obtain ⟨ha, rfl⟩ := hf
      obtain ⟨h1, h2⟩ := alikeAll_of ha
      obtain ⟨a, ys, rfl, la, ra⟩ := rep_tup rx
      obtain ⟨its, rt, ht, _⟩ := I.tuple la.sq
      rw [Vals.ref1 rv]
      obtain ⟨as, hr⟩ := Reps.reads I ra rt
      refine PySem.W.max_tuple_data (I.ok.hd hc) ht (by simpa using hr) h1 (by omega) fun i v h' tk bs hv hrd hk => ?_
      obtain ⟨w, hw, rw'⟩ := pick_rep I ra rt h1.1 (maxD_mem y xs) (by simpa using hv) hk hrd
      exact ⟨w, H, I.kept hk, hw, q _ _ Keep.refl (ResOk.zero rw')⟩
  case sorted =>
    match ds, hf with
    | [.list xs], hf =>
      obtain ⟨x, rfl, rx⟩ := reps1 rs
      simp only [biD, Option.ite_none_right_eq_some, Option.some.injEq] at hf
      obtain ⟨ha, rfl⟩ := hf
      simp only [sortOk, Bool.and_eq_true, Bool.or_eq_true] at ha
      obtain ⟨⟨h1, h2⟩, h3⟩ := ha
      have h3' : PyData.depthAll xs ≤ 60 := of_decide_eq_true h3
      obtain ⟨a, ys, rfl, la, ra⟩ := rep_lst rx
      obtain ⟨its, rt, ht, hz⟩ := I.list la.sq
      rw [Vals.ref1 rv]
      have hmap : xs.map (fun d : D => d) = xs := by simp
      refine PySem.W.sorted_data (enc := fun d : D => d) (R := fun u d => ∃ x, RelV x u ∧ Rep X.K H S x d) ht.isList (eachIs_of rt ra fun x u d a b => ⟨x, a, b⟩) (eachIs_of rt ra fun x u d a b => Rep.reads I b a) (by rw [hmap]; exact alike_all h1) (by
        rw [hmap]
        rcases h2 with h2 | h2
        · refine .inl fun d hd => ?_
          have := List.all_eq_true.mp h2 d hd
          cases d <;> simp [isTupNE] at this
          rename_i zs
          cases zs with
          | nil => simp [isTupNE] at this
          | cons z zs => exact ⟨z, zs, rfl⟩
        · refine .inr fun d hd => ?_
          have := List.all_eq_true.mp h2 d hd
          simp only [Bool.and_eq_true] at this
          refine ⟨notNon this.1, fun zs e => ?_⟩
          subst e
          simp [isTup] at this) (by rw [← ra.length]; exact hz) (fun d hd => by have := depth_mem hd; omega) fun out hl er => ?_
      obtain ⟨zs, vz, rz⟩ := of_eachIs er
      obtain ⟨ep, he'⟩ := PyProof.Rows.sortedAll_at s.heap its out.toArray
      have hlen : zs.length ≤ sizeLine := by rw [vz.length, hl, ← ra.length]; exact hz
      have hp : H (s.heap.objs.size + 1) = none := I.hok.fresh (Nat.le_succ _)
      exact ⟨.ref _, upd H (s.heap.objs.size + 1) (.lst zs), I.laid (t' := s.toks) (fun _ _ => PyProof.Rows.sortedAll_old) (Nat.le_succ _) ⟨hlen, out, ep, vz, he'⟩, rfl, q _ _ (Keep.new hp) (res_newL al hp rz)⟩
  case all =>
    match ds, hf with
    | [.list xs], hf =>
      obtain ⟨x, rfl, rx⟩ := reps1 rs
      simp only [biD, Option.map_eq_some_iff] at hf
      obtain ⟨ns, hn, rfl⟩ := hf
      obtain ⟨a, ys, rfl, la, ra⟩ := rep_lst rx
      have e := bls_vals hn ra
      subst e
      exact cr_all hc pins s σ H _ us Q I rv ⟨a, ns, rfl, la.sq, hQb rfl⟩
  case any =>
    match ds, hf with
    | [.list xs], hf =>
      obtain ⟨x, rfl, rx⟩ := reps1 rs
      simp only [biD, Option.map_eq_some_iff] at hf
      obtain ⟨ns, hn, rfl⟩ := hf
      obtain ⟨a, ys, rfl, la, ra⟩ := rep_lst rx
      have e := bls_vals hn ra
      subst e
      exact cr_any hc pins s σ H _ us Q I rv ⟨a, ns, rfl, la.sq, hQb rfl⟩
  case abs =>
    match ds, hf with
    | [.int i], hf =>
      obtain ⟨x, rfl, rx⟩ := reps1 rs
      simp only [biD, Option.some.injEq] at hf
      subst hf
      rw [rep_int rx] at rv
      exact call_abs pins s σ H _ us Q I rv ⟨i, rfl, hQi rfl⟩
  case min2 =>
    match ds, hf with
    | [.int i, .int j], hf =>
      obtain ⟨x, y, rfl, rx, ry⟩ := reps2 rs
      simp only [biD, Option.some.injEq] at hf
      subst hf
      rw [rep_int rx, rep_int ry] at rv
      exact call_min2 hc pins s σ H _ us Q I rv ⟨i, j, rfl, hQi rfl⟩
  case max2 =>
    match ds, hf with
    | [.int i, .int j], hf =>
      obtain ⟨x, y, rfl, rx, ry⟩ := reps2 rs
      simp only [biD, Option.some.injEq] at hf
      subst hf
      rw [rep_int rx, rep_int ry] at rv
      exact call_max2 hc pins s σ H _ us Q I rv ⟨i, j, rfl, hQi rfl⟩
  case min3 =>
    match ds, hf with
    | [.int i, .int j, .int k], hf =>
      obtain ⟨x, y, z, rfl, rx, ry, rz⟩ := reps3 rs
      simp only [biD, Option.some.injEq] at hf
      subst hf
      rw [rep_int rx, rep_int ry, rep_int rz] at rv
      exact call_min3 hc pins s σ H _ us Q I rv ⟨i, j, k, rfl, hQi rfl⟩
  case max3 =>
    match ds, hf with
    | [.int i, .int j, .int k], hf =>
      obtain ⟨x, y, z, rfl, rx, ry, rz⟩ := reps3 rs
      simp only [biD, Option.some.injEq] at hf
      subst hf
      rw [rep_int rx, rep_int ry, rep_int rz] at rv
      exact call_max3 hc pins s σ H _ us Q I rv ⟨i, j, k, rfl, hQi rfl⟩
  case max4 =>
    match ds, hf with
    | [.int i, .int j, .int k, .int l], hf =>
      obtain ⟨x, y, z, v, rfl, rx, ry, rz, rv4⟩ := reps4 rs
      simp only [biD, Option.some.injEq] at hf
      subst hf
      rw [rep_int rx, rep_int ry, rep_int rz, rep_int rv4] at rv
      exact call_max4 hc pins s σ H _ us Q I rv ⟨i, j, k, l, rfl, hQi rfl⟩
end
end Cw
end

section
namespace Cw
open PySem PySem.Spec PyProof.Rows L2

def notStar : Expr → Bool
  | .Starred .. => false
  | _ => true
theorem star_cons {e : Expr} {es : List Expr} {env : PySem.Env} (h : notStar e = true) : starEach (e :: es) env = (false, eval e env) :: starEach es env := by
  cases e <;> first | rfl | (simp [notStar] at h)
theorem star_none {es : List Expr} {env : PySem.Env} {pos : Pos} (h : es.all notStar = true) : (backTo pos (starEach es env)).any (·.1) = false := by
  induction es with
  | nil => rfl
  | cons e es ih =>
    simp only [List.all_cons, Bool.and_eq_true] at h
    rw [star_cons h.1]
    unfold backTo at ih ⊢
    simpa using ih h.2
section
variable {X : Cx} {A0 : Prot} {EA : EAt} {W : WX} {k ka kb kc : Nat} {a b c e : Expr} {es : List Expr} {fa fb fc : Env → Out D} {fs : Env → Out (List D)} {pos p2 q2 p : Pos}
def biName : Bi → Str
  | .len => "len" | .int => "int" | .list => "list" | .tuple => "tuple" | .sum => "sum" | .min1 => "min" | .max1 => "max" | .sorted => "sorted" | .all => "all" | .any => "any" | .abs => "abs" | .min2 => "min" | .max2 => "max" | .min3 => "min" | .max3 => "max" | .max4 => "max"
theorem tvC {f : List D → Option D} {Q : VK} {σ : L2.St} {H : Hp} (h : TEv X.K A0 EA W k (fun r => (fs r).bind fun ds r1 => lift (f ds) r1) σ H Q) : tCB (rCV X.K k f) (TAv X.K A0 EA W fs) σ H Q := by
  obtain ⟨r, Fs, G, h⟩ := h
  refine ⟨r, Fs, G, h.bind fun ds r1 _ h1 => fun vs H1 k1 G1 q1 => ?_⟩
  obtain ⟨d, hd, h2⟩ := h1.lift
  exact ⟨Sv A0 Fs, ds, d, G1.alS, q1, hd, fun v H3 k3 q3 => h2 v H3 (k1.trans (kf k3)) (G1.keep0 k3) (q3.back k1)⟩
theorem te_bi (bi : Bi) (hc : X.calm = true) (hu : X.A.units + 70 < cLine) (hg : Gl X (biName bi)) (hm : X.mg (biName bi) = none) (ha : PA X (e :: es) (TAv X.K A0 EA W fs)) (he : notStar e = true) (hes : es.all notStar = true) :
    PE X (.Call (.Name (biName bi) p) (e :: es) [] pos) (TEv X.K A0 EA W (frBi bi) fun r => (fs r).bind fun ds r1 => lift (biD bi ds) r1) := by
  have hcall := call_bi bi (X := X) hc hu
  refine PE.imp (t := tCB (rCV X.K (frBi bi) (biD bi)) (TAv X.K A0 EA W fs)) ?_ fun _ _ _ q => tvC q
  cases bi
  case len => exact pe_callB hcall hg hm (by rfl) ha (by decide) (by decide) (star_cons he) (star_none hes)
  case int => exact pe_callTy hcall hg hm (by rfl) ha (by decide) (by decide) (star_cons he) (star_none hes)
  case list => exact pe_callTy hcall hg hm (by rfl) ha (by decide) (by decide) (star_cons he) (star_none hes)
  case tuple => exact pe_callTy hcall hg hm (by rfl) ha (by decide) (by decide) (star_cons he) (star_none hes)
  all_goals exact pe_callB hcall hg hm (by rfl) ha (by decide) (by decide) (star_cons he) (star_none hes)
def tyName : Ty → String
  | .int => "int" | .bool => "bool" | .str => "str" | .list => "list" | .tuple => "tuple"
def tyS : Ty → Str
  | .int => "int" | .bool => "bool" | .str => "str" | .list => "list" | .tuple => "tuple"
def tyOfD : D → String
  | .none => "NoneType" | .bool _ => "bool" | .int _ => "int" | .str _ => "str" | .list _ => "list" | .tuple _ => "tuple" | .dict _ => "dict"
theorem kit_d (t : Ty) (d : D) : kitB (tyOfD d) (tyName t) = some (isaTy t d) := by
  cases d <;> cases t <;> with_unfolding_all rfl
theorem kit_any {K : Fr} (d : D) : ∀ ts : List Ty, PySem.W.kitAny K (.type (tyOfD d)) (ts.map fun t => .type (tyName t)) = some (ts.any fun t => isaTy t d)
  | [] => rfl
  | t :: ts => kitAny_cons (kit_ty (kit_d t d)) (fun e => by rw [List.any_cons, e, Bool.false_or]; exact kit_any d ts) fun e => by rw [List.any_cons, e, Bool.true_or]
theorem tyx_of {K : Fr} {H : Hp} {S : Addr → Prop} {v : V} {d : D} (h : Rep K H S v d) : TyX K H v (.type (tyOfD d)) := by
  cases h with
  | non => exact .base .non
  | bl b => exact .base (.bl b)
  | int i => exact .base (.int i)
  | str x => exact .base (.str x)
  | lst h r =>
    rcases h with ⟨h | ⟨o, h⟩, _⟩ | ⟨o, its, n, e, c, _⟩
    · exact .base (.lst h)
    · exact .base (.frz h)
    · exact .kList e c
  | tup h r =>
    rcases h with ⟨h | ⟨o, h⟩, _⟩ | ⟨o, its, n, e, c, _⟩
    · exact .base (.tup h)
    · exact .fTuple h
    · exact .kTuple e c
theorem boot_ty (t : Ty) : bootBuiltins (tyS t) = some (.type (tyName t)) := by cases t <;> rfl
theorem tyS_1 (t : Ty) : tyS t ≠ "__name__" := by cases t <;> decide
theorem tyS_2 (t : Ty) : (tyS t == ("__debug__" : Str)) = false := by cases t <;> decide
theorem pe_tyN (t : Ty) (hg : Gl X (tyS t)) (hm : X.mg (tyS t) = none) : PE X (.Name (tyS t) p) (tC (.ty (tyName t))) :=
  pe_bltn hg hm (boot_ty t) (show RelV (.ty (tyName t)) (.type (tyName t)) from rfl) (tyS_1 t) (tyS_2 t)
/-- names of types -/
def tyNames : List Ty → List Expr → Bool
  | [], [] => true
  | t :: ts, .Name x _ :: es => decide (x = tyS t) && tyNames ts es
  | _, _ => false
def tCs (vs : List V) : TA := fun _ H Q => Q vs H
theorem pa_tys : ∀ {ts : List Ty} {es : List Expr}, (∀ t ∈ ts, Gl X (tyS t) ∧ X.mg (tyS t) = none) → tyNames ts es = true → PA X es (tCs (ts.map fun t => .ty (tyName t)))
  | [], [], _, _ => pa_nil
  | t :: ts, e :: es, hg, h => by
    cases e <;> simp only [tyNames, Bool.false_eq_true, Bool.and_eq_true, decide_eq_true_eq] at h
    obtain ⟨rfl, h⟩ := h
    exact pa_cons (pe_tyN t (hg t List.mem_cons_self).1 (hg t List.mem_cons_self).2) (pa_tys (fun t ht => hg t (List.mem_cons_of_mem _ ht)) h) rfl
  | [], _ :: _, _, h => by simp [tyNames] at h
  | _ :: _, [], _, h => by simp [tyNames] at h
theorem cls_tys : ∀ ts : List Ty, Paired ClsV (ts.map fun t => V.ty (tyName t)) (ts.map fun t => Value.type (tyName t))
  | [] => .nil
  | t :: ts => .cons (.ty _) (cls_tys ts)
theorem plain_isa (d : D) (t : Ty) : True := trivial
theorem te_isaN {ts : List Ty} {j : Nat} (hgi : Gl X "isinstance") (hmi : X.mg "isinstance" = none) (ha : PE X a (TEv X.K A0 EA W ka fa)) (hs : notStar a = true) (hes : PA X es (tCs (ts.map fun t => .ty (tyName t)))) (hl : ts.length ≤ 1000) :
    PE X (.Call (.Name "isinstance" p) [a, .Tuple es j p2] [] pos) (TEv X.K A0 EA W 0 fun r => (fa r).bind fun x r1 => if x.plain then .ok (.bool (ts.any fun t => isaTy t x)) r1 else .bad) := by
  refine PE.imp (pe_callB call_isiT hgi hmi (by rfl) (pa_cons ha (pa_cons (pe_tup hes) pa_nil rfl) (star_cons hs)) (by decide) (by decide) (star_cons hs) rfl) ?_
  rintro σ H Q ⟨r, Fs, G, h⟩
  refine ⟨r, Fs, G, h.bind fun x r1 _ h1 => fun v1 H1 k1 G1 q1 => ?_⟩
  by_cases hx : x.plain = true
  · rw [if_pos hx] at h1
    refine ⟨by rw [List.length_map, sizeLine_eq]; omega, fun t ht => ?_⟩
    refine ⟨v1, t, _, _, _, _, rfl, upd_same, cls_tys ts, tyx_of (q1.1.keep (M := fun _ => False) (Keep.new ht) fun _ z => z.elim), kit_any x ts, ?_⟩
    exact h1 _ _ (k1.trans (Keep.new ht)) (G1.keep0 (Keep.new ht)) (ResOk.zero (.bl _))
  · rw [if_neg hx] at h1; exact h1.elim
theorem te_isa1 {t : Ty} (hgi : Gl X "isinstance") (hmi : X.mg "isinstance" = none) (hg : Gl X (tyS t)) (hm : X.mg (tyS t) = none) (ha : PE X a (TEv X.K A0 EA W ka fa)) (hs : notStar a = true) :
    PE X (.Call (.Name "isinstance" p) [a, .Name (tyS t) p2] [] pos) (TEv X.K A0 EA W 0 fun r => (fa r).bind fun x r1 => if x.plain then .ok (.bool ([t].any fun t => isaTy t x)) r1 else .bad) := by
  refine PE.imp (pe_callB call_isi hgi hmi (by rfl) (pa_cons ha (pa_cons (pe_tyN t hg hm) pa_nil rfl) (star_cons hs)) (by decide) (by decide) (star_cons hs) rfl) ?_
  rintro σ H Q ⟨r, Fs, G, h⟩
  refine ⟨r, Fs, G, h.bind fun x r1 _ h1 => fun v1 H1 k1 G1 q1 => ?_⟩
  by_cases hx : x.plain = true
  · rw [if_pos hx] at h1
    refine ⟨v1, _, _, _, _, rfl, .ty _, tyx_of q1.1, kit_ty (kit_d t x), ?_⟩
    exact h1 _ _ k1 G1 (ResOk.zero (by simpa using Rep.bl _))
  · rw [if_neg hx] at h1; exact h1.elim
def chF (op op' : COp) (fa fb fc : Env → Out D) : Env → Out D := fun r => (fa r).bind fun x r1 => (fb r1).bind fun y r2 => (lift (cmpD op x y) r2).bind fun k r3 =>
  if k then (fc r3).bind fun z r4 => lift ((cmpD op' y z).map .bool) r4 else .ok (.bool false) r3
theorem tvChain {op op' : COp} {σ : L2.St} {H : Hp} {Q : VK} (h : TEv X.K A0 EA W 0 (chF op op' fa fb fc) σ H Q) :
    tChain (rVal X.K 0 fun a b => (cmpD op a b).map .bool) (rVal X.K 0 fun a b => (cmpD op' a b).map .bool) (TEv X.K A0 EA W ka fa) (TEv X.K A0 EA W kb fb) (TEv X.K A0 EA W kc fc) σ H Q := by
  obtain ⟨r, Fs, G, h⟩ := h
  refine ⟨r, Fs, G, h.bind fun x r1 _ h1 => fun v1 H1 k1 G1 q1 => ⟨r1, Fs, G1, ?_⟩⟩
  refine (h1.bind (R' := fun y r2 _ => Pst X.K A0 EA W σ Fs H ((lift (cmpD op x y) r2).bind fun k r3 => if k then (fc r3).bind fun z r4 => lift ((cmpD op' y z).map .bool) r4 else .ok (.bool false) r3) fun d r' _ =>
    ∀ v H', Keep (inF Fs) H H' → Good X.K A0 σ H' r' Fs → ResOk X.K H H' (Sv A0 Fs) 0 v d → Q v H') fun y r2 _ h2 => h2).later k1 fun y r2 h3 => fun v2 H2 k2 G2 q2 => ?_
  obtain ⟨t, ht, h4⟩ := (h3.bind (R' := fun t r3 _ => Pst X.K A0 EA W σ Fs H (if t then (fc r3).bind fun z r4 => lift ((cmpD op' y z).map .bool) r4 else .ok (.bool false) r3) fun d r' _ =>
    ∀ v H', Keep (inF Fs) H H' → Good X.K A0 σ H' r' Fs → ResOk X.K H H' (Sv A0 Fs) 0 v d → Q v H') fun t r3 _ h => h).lift
  refine ⟨Sv A0 Fs, x, y, .bool t, G2.alS, q1.1.keep k2 sub_in, q2.1, by show (cmpD op x y).map _ = _; rw [ht]; rfl, fun v H3 k3 q3 => ⟨t, rep_bl q3.1, ?_⟩⟩
  have k13 : Keep (inF Fs) H H3 := (k1.trans k2).trans (kf k3)
  cases t with
  | false =>
    rw [if_neg Bool.false_ne_true]
    rw [if_neg Bool.false_ne_true] at h4
    exact h4 _ _ k13 (G2.keep0 k3) (ResOk.zero (.bl _))
  | true =>
    rw [if_pos rfl]
    rw [if_pos rfl] at h4
    refine ⟨r2, Fs, G2.keep0 k3, (h4.bind (R' := fun z r4 _ => ∃ d, (cmpD op' y z).map .bool = some d ∧ ∀ v H', Keep (inF Fs) H H' → Good X.K A0 σ H' r4 Fs → ResOk X.K H H' (Sv A0 Fs) 0 v d → Q v H') fun z r4 _ h5 => h5.lift).later k13 fun z r4 ⟨d, hd, h6⟩ => fun v4 H4 k4 G4 q4 => ?_⟩
    have k34 : Keep (inF Fs) H2 H4 := (kf k3).trans k4
    exact ⟨Sv A0 Fs, y, z, d, G4.alS, q2.1.keep k34 sub_in, q4.1, hd, fun v H5 k5 q5 => h6 v H5 ((k13.trans k4).trans (kf k5)) (G4.keep0 k5) (q5.back (k13.trans k4))⟩
theorem te_chain {op op' : COp} (hu : X.A.units + 64 < cLine) (ha : PE X a (TEv X.K A0 EA W ka fa)) (hb : PE X b (TEv X.K A0 EA W kb fb)) (hc : PE X c (TEv X.K A0 EA W kc fc)) (hs : ∀ es k p, c ≠ .Set es k p) :
    PE X (.Compare a [copOf op, copOf op'] [b, c] pos) (TEv X.K A0 EA W 0 (chF op op' fa fb fc)) :=
  PE.imp (pe_chain (op_cmp op hu) (op_cmp op' hu) ha hb hc (by show behindInMarks _ c = false; exact nobeh fun _ => hs)) fun _ _ _ q => tvChain q
/-- a test whose value is a bool -/
theorem tvBool {f : Env → Out D} {σ : L2.St} {H : Hp} {Q : Bool → Hp → Prop} (hb : ∀ r d r', f r = .ok d r' → ∃ b, d = .bool b) (h : TTv X.K A0 EA W (fun r => tru (f r)) σ H Q) : TEv X.K A0 EA W 0 f σ H fun x H' => ∃ k, x = .bl k ∧ Q k H' := by
  obtain ⟨r, Fs, G, h⟩ := h
  refine ⟨r, Fs, G, h.bind fun d r2 e h1 => fun v H' k1 G1 q1 => ?_⟩
  obtain ⟨b, hb', h2⟩ := h1.lift
  obtain ⟨b', rfl⟩ := hb _ _ _ e
  simp only [truthD, Option.some.injEq] at hb'
  subst hb'
  exact ⟨b', rep_bl q1.1, h2 H' k1 G1⟩
theorem bool_lift {r2 r' : Env} {o : Option Bool} {d : D} (h : lift (o.map .bool) r2 = .ok d r') : ∃ b, d = .bool b := by
  cases o with
  | none => simp [Cw.lift] at h
  | some b => simp only [Cw.lift, Option.map_some, Out.ok.injEq] at h; exact ⟨b, h.1.symm⟩
theorem bind_ok {α β : Type} {o : Out α} {g : α → Env → Out β} {b : β} {r' : Env} (h : o.bind g = .ok b r') : ∃ a r1, o = .ok a r1 ∧ g a r1 = .ok b r' := by
  cases o with
  | ok a r1 => exact ⟨a, r1, rfl, h⟩
  | exc _ _ => cases h
  | bad => cases h
theorem tt_chain {op op' : COp} (hu : X.A.units + 64 < cLine) (ha : PE X a (TEv X.K A0 EA W ka fa)) (hb : PE X b (TEv X.K A0 EA W kb fb)) (hc : PE X c (TEv X.K A0 EA W kc fc)) (hs : ∀ es k p, c ≠ .Set es k p) :
    PT X (.Compare a [copOf op, copOf op'] [b, c] pos) (TTv X.K A0 EA W fun r => tru (chF op op' fa fb fc r)) := by
  refine PT.imp (pt_chain (op_cmp op hu) (op_cmp op' hu) ha hb hc (by show behindInMarks _ c = false; exact nobeh fun _ => hs)) fun σ H Q q => tvChain (tvBool (fun r d r' e => ?_) q)
  obtain ⟨x, r1, _, e⟩ := bind_ok e
  obtain ⟨y, r2, _, e⟩ := bind_ok e
  obtain ⟨t, r3, _, e⟩ := bind_ok e
  cases t with
  | true => rw [if_pos rfl] at e; obtain ⟨z, r4, _, e⟩ := bind_ok e; exact bool_lift e
  | false => cases e; exact ⟨_, rfl⟩
def TOv (K : Fr) (A0 : Prot) (EA : EAt) (W : WX) (f : Env → Out (Option Int)) : TO := fun σ H Q => ∃ r Fs, Good K A0 σ H r Fs ∧ Pst K A0 EA W σ Fs H (f r) fun ds r' _ =>
  ∀ H', Keep (inF Fs) H H' → Good K A0 σ H' r' Fs → Q ds H'
theorem PO.imp {e : Option Expr} {t t' : TO} (h : PO X e t) (i : ∀ σ H Q, t' σ H Q → t σ H Q) : PO X e t' := ⟨fun pins s σ H Q I q => h.run pins s σ H Q I (i σ H Q q)⟩
theorem to_none : PO X none (TOv X.K A0 EA W fun r => .ok none r) := PO.imp po_none fun σ H Q ⟨r, Fs, G, h⟩ => h H Keep.refl G
theorem to_some (ha : PE X a (TEv X.K A0 EA W ka fa)) : PO X (some a) (TOv X.K A0 EA W fun r => (fa r).bind fun x r1 => match x with
    | .int i => .ok (some i) r1
    | _ => .bad) := by
  refine PO.imp (po_some ha) fun σ H Q ⟨r, Fs, G, h⟩ => ⟨r, Fs, G, h.bind fun x r1 _ h1 => fun v1 H1 k1 G1 q1 => ?_⟩
  cases x with
  | int i => exact ⟨i, rep_int q1.1, h1 H1 k1 G1⟩
  | _ => exact h1.elim
theorem te_slc {lo hi : Option Expr} {fl fh : Env → Out (Option Int)} (ha : PE X a (TEv X.K A0 EA W ka fa)) (hl : PO X lo (TOv X.K A0 EA W fl)) (hh : PO X hi (TOv X.K A0 EA W fh)) :
    PE X (.Subscript a (.Slice lo hi none p2) pos) (TEv X.K A0 EA W 1 fun r => (fa r).bind fun x r1 => (fl r1).bind fun l r2 => (fh r2).bind fun h r3 => lift (slcD x l h) r3) := by
  refine PE.imp (pe_slice sl_val ha hl hh) fun σ H Q ⟨r, Fs, G, h⟩ => ⟨r, Fs, G, h.bind fun x r1 _ h1 => fun v1 H1 k1 G1 q1 => ⟨r1, Fs, G1, ?_⟩⟩
  refine (h1.bind (R' := fun l r2 _ => Pst X.K A0 EA W σ Fs H ((fh r2).bind fun h r3 => lift (slcD x l h) r3) fun d r' _ =>
    ∀ v H', Keep (inF Fs) H H' → Good X.K A0 σ H' r' Fs → ResOk X.K H H' (Sv A0 Fs) 1 v d → Q v H') fun y r2 _ h2 => h2).later k1 fun l r2 h3 => fun H2 k2 G2 => ⟨r2, Fs, G2, ?_⟩
  have k12 := k1.trans k2
  refine (h3.bind (R' := fun h r3 _ => ∃ d, slcD x l h = some d ∧ ∀ v H', Keep (inF Fs) H H' → Good X.K A0 σ H' r3 Fs → ResOk X.K H H' (Sv A0 Fs) 1 v d → Q v H') fun h r3 _ h4 => h4.lift).later k12 fun u r3 ⟨d, hd, h5⟩ => fun H3 k3 G3 => ?_
  exact ⟨Sv A0 Fs, x, d, G3.alS, q1.1.keep (k2.trans k3) sub_in, hd, fun v H4 k4 q4 => h5 v H4 ((k12.trans k3).trans (kf k4)) (G3.keep0 k4) (q4.back (k12.trans k3))⟩
theorem getA_at {σ : L2.St} {H : Hp} {r : Env} {Fs : List (Option Addr)} (G : Good X.K A0 σ H r Fs) {i : Nat} {d : D} (h : getA r i = some d) :
    ∃ v, σ[i]? = some (some v) ∧ (Rep X.K H (Sv A0 Fs) v d ∨ ∃ p, v = .ref p ∧ OwnL X.K H (Sv A0 Fs) p d) := by
  unfold getA at h
  split at h
  · rename_i d' e
    cases h
    obtain ⟨v, hv, q⟩ := G.val i _ e
    exact ⟨v, hv, .inl q⟩
  · rename_i d' e
    cases h
    obtain ⟨_, p, h1, h2, _, q⟩ := G.own i _ _ e
    exact ⟨_, h2, .inr ⟨p, rfl, q⟩⟩
  · rename_i d' e
    cases h
    obtain ⟨p, h1, h2, _, q⟩ := G.chg i _ e
    exact ⟨_, h2, .inr ⟨p, rfl, q⟩⟩
  · rename_i d' e
    cases h
    obtain ⟨p, h1, h2, q⟩ := G.prt i _ e
    exact ⟨_, h1, .inr ⟨p, rfl, q⟩⟩
  · cases h
theorem te_sidx {i : Nat} {x : Str} (hN : X.N[i]? = some x) (hv : Vis X.env.scope x) (hd : (x == ("__debug__" : Str)) = false) (hcd : (x == ("__classdict__" : Str)) = false) (hb : PE X b (TEv X.K A0 EA W kb fb)) (hs : PlainIx b) :
    PE X (.Subscript (.Name x p) b pos) (TEv X.K A0 EA W 0 fun r => (lift (getA r i) r).bind fun _ r0 => (fb r0).bind fun y r1 => (lift (getA r1 i) r1).bind fun z r2 => lift (idxD z y) r2) := by
  have hix : IxR X (fun x y H Q => rVal X.K 0 idxD x y H Q ∨ rIxL X.K x y H Q) := by
    intro value slice pins s σ H x y v u Q I rx ry h hs
    rcases h with h | h
    · exact ix_val value slice pins s σ H x y v u Q I rx ry h hs
    · exact ix_list value slice pins s σ H x y v u Q I rx ry h hs
  refine PE.imp (pe_ix hix (pe_var hN hv hd hcd) hb hs) fun σ H Q ⟨r, Fs, G, h⟩ => ?_
  obtain ⟨d0, hd0, h⟩ := (h.bind (R' := fun _ r0 _ => Pst X.K A0 EA W σ Fs H ((fb r0).bind fun y r1 => (lift (getA r1 i) r1).bind fun z r2 => lift (idxD z y) r2) fun d r' _ =>
    ∀ v H', Keep (inF Fs) H H' → Good X.K A0 σ H' r' Fs → ResOk X.K H H' (Sv A0 Fs) 0 v d → Q v H') fun _ _ _ h => h).lift
  obtain ⟨v, hσ, _⟩ := getA_at G hd0
  refine ⟨v, hσ, r, Fs, G, h.bind fun y r1 _ h1 => fun v1 H1 k1 G1 q1 => ?_⟩
  obtain ⟨d1, hd1, h2⟩ := (h1.bind (R' := fun z r2 _ => Pst X.K A0 EA W σ Fs H (lift (idxD z y) r2) fun d r' _ =>
    ∀ v H', Keep (inF Fs) H H' → Good X.K A0 σ H' r' Fs → ResOk X.K H H' (Sv A0 Fs) 0 v d → Q v H') fun _ _ _ h => h).lift
  obtain ⟨d2, hd2, h3⟩ := h2.lift
  obtain ⟨v', hσ', q⟩ := getA_at G1 hd1
  rw [hσ] at hσ'
  cases hσ'
  rcases q with q | ⟨p, rfl, xs, ds, rfl, e, rs⟩
  · exact .inl ⟨Sv A0 Fs, d1, y, d2, G1.alS, q, q1.1, hd2, fun v H3 k3 q3 => h3 v H3 (k1.trans (kf k3)) (G1.keep0 k3) (q3.back k1)⟩
  · cases y <;> simp only [idxD, reduceCtorEq] at hd2
    obtain ⟨j, e1, e2⟩ := atI_eq hd2
    obtain ⟨w, h5, h6⟩ := rs.get e2
    exact .inr ⟨p, xs, _, w, rfl, rep_int q1.1, .inl (.inl e), atI_of (by rw [rs.length]; exact e1) h5, h3 _ _ k1 G1 (ResOk.zero h6)⟩
theorem te_lrep {fs : Env → Out (List D)} (hes : PA X es (TAv X.K A0 EA W fs)) (hb : PE X b (TEv X.K A0 EA W kb fb)) :
    PE X (.BinOp (.List es p) .Mult b pos) (TEv X.K A0 EA W 1 fun r => (fs r).bind fun ds r1 => if ds.length ≤ LIM then (fb r1).bind fun y r2 => lift (repD ds y) r2 else .bad) := by
  refine PE.imp (pe_op op_rep (te_lst (A0 := A0) (EA := EA) (W := W) hes) hb) fun σ H Q ⟨r, Fs, G, h⟩ => ?_
  refine ⟨r, Fs, G, ?_⟩
  cases e : fs r with
  | exc x r' => simp only [e, Out.bind] at h ⊢; exact h
  | bad => simp only [e, Out.bind] at h; exact h.elim
  | ok ds r1 =>
    simp only [e, Out.bind] at h ⊢
    by_cases hl : ds.length ≤ LIM
    · rw [if_pos hl] at h ⊢
      intro v1 H1 k1 G1 q1
      obtain ⟨a, xs, rfl, ha, hxs, rs'⟩ := q1.2 rfl _ rfl
      have rs := rs'.mono fun a z => .inl (.inl z)
      refine ⟨r1, Fs, G1, (h.bind (R' := fun y r2 _ => ∃ d, repD ds y = some d ∧ ∀ v H', Keep (inF Fs) H H' → Good X.K A0 σ H' r2 Fs → ResOk X.K H H' (Sv A0 Fs) 1 v d → Q v H') fun y r2 _ h2 => h2.lift).later k1 fun y r2 ⟨d, hd, h3⟩ => fun v2 H2 k2 G2 q2 => ?_⟩
      cases y <;> simp only [repD, reduceCtorEq, Option.ite_none_right_eq_some, Option.some.injEq] at hd
      obtain ⟨⟨h1, h2, h4⟩, rfl⟩ := hd
      have na : ¬ inF Fs a := fun z => by
        obtain ⟨ys, e'⟩ := G.lstF z
        rw [ha] at e'; cases e'
      have e2 : H2 a = some (.lst xs) := k2.1 _ _ hxs na
      refine ⟨a, _, xs, rfl, rep_int q2.1, e2, h1, h2, by rw [rs.length, ← LIM_eq]; exact h4, fun q hq => ?_⟩
      exact h3 _ _ ((k1.trans k2).trans (Keep.new hq)) (G2.keep0 (Keep.new hq)) ((res_newL G2.alS hq ((rs.keep k2 sub_in).rep _)).back (k1.trans k2))
    · rw [if_neg hl] at h; exact h.elim
theorem te_lens (hc : X.calm = true) (hg : Gl X "len") (hm : X.mg "len" = none) (hg2 : Gl X "set") (hm2 : X.mg "set" = none) (ha : PE X a (TEv X.K A0 EA W ka fa)) (hs : notStar a = true) :
    PE X (.Call (.Name "len" p) [.Call (.Name "set" p2) [a] [] q2] [] pos) (TEv X.K A0 EA W 0 fun r => (fa r).bind fun x r1 => lift (lensD x) r1) := by
  refine PE.imp (pe_lens hc hg hm hg2 hm2 ha (star_cons hs)) fun σ H Q q => (tv1 (f := lensD) (ka := ka) q).mono fun x H1 h => ?_
  obtain ⟨S, dx, d, al, hx, hf, q⟩ := h
  have key : ∀ {ds : List D} {ys : List V}, (intsD ds).bind (fun ns => (lensI ns).map PyData.int) = some d → Reps X.K H1 S ys ds → ∃ ns, ys = ns.map V.int ∧ ns.length ≤ 4000 ∧ d = .int ((ddp ns).length : Nat) := fun {ds ys} h r => by
    obtain ⟨ns, h1, h2⟩ := Option.bind_eq_some_iff.mp h
    obtain ⟨n, h3, rfl⟩ := Option.map_eq_some_iff.mp h2
    simp only [lensI, Option.ite_none_right_eq_some, Option.some.injEq] at h3
    exact ⟨ns, ints_vals h1 r, Nat.le_of_ble_eq_true h3.1, by rw [h3.2]⟩
  cases dx <;> simp only [lensD, reduceCtorEq] at hf
  · obtain ⟨l, ys, rfl, hl, rs⟩ := rep_lst hx
    obtain ⟨ns, rfl, h1, rfl⟩ := key hf rs
    exact ⟨l, ns, rfl, .inl hl.sq, h1, q _ _ Keep.refl (ResOk.zero (.int _))⟩
  · obtain ⟨l, ys, rfl, hl, rs⟩ := rep_tup hx
    obtain ⟨ns, rfl, h1, rfl⟩ := key hf rs
    exact ⟨l, ns, rfl, .inr hl.sq, h1, q _ _ Keep.refl (ResOk.zero (.int _))⟩
/-- what max(a, default=k) is to do -/
def rMaxd (K : Fr) (k : Int) : List V → List V → Hp → VK → Prop := fun vs zs H Q => ∃ (S : Addr → Prop) (x : V) (dx d : D), vs = [x] ∧ zs = [.int k] ∧ (∀ a, S a → H a ≠ none) ∧ Rep K H S x dx ∧ maxdD k dx = some d ∧
  ∀ v H', Keep (fun _ => False) H H' → ResOk K H H' S 0 v d → Q v H'
theorem cr_maxd (k : Int) (hc : X.calm = true) (hu : X.A.units + 70 < cLine) : CallRK X (.builtin "max") [Str.ofString "default"] (rMaxd X.K k) := by
  intro pins s σ H vs zs us ws Q I r rz ⟨S, x, dx, d, e1, e2, al, hx, hf, q⟩
  subst e1 e2
  obtain ⟨u, rfl, ru⟩ := L2.vals1 r
  obtain ⟨w, rfl, rw'⟩ := L2.vals1 rz
  obtain ⟨t, rfl⟩ := rw'
  match dx, hf with
  | .list [], hf =>
    simp only [maxdD, Option.some.injEq] at hf
    subst hf
    obtain ⟨a, ys, rfl, la, ra⟩ := rep_lst hx
    obtain ⟨its, rt, ht, _⟩ := I.list la.sq
    cases ru
    cases ra
    cases rt
    refine PySem.W.max_list_default (xs := []) (as := []) (I.ok.hd hc) ht.isList ReadsAll.nil ⟨fun x h => (nomatch h), fun x h => (nomatch h)⟩ (by simp only [PyData.depthAll]; omega) (fun _ h' tk hk => ⟨.int k, H, I.kept hk, ⟨t, rfl⟩, q _ _ Keep.refl (ResOk.zero (.int _))⟩) fun y ys i v h' tk bs e => nomatch e
  | .list (y :: xs), hf =>
    simp only [maxdD, Option.ite_none_right_eq_some, Option.some.injEq] at hf
    obtain ⟨ha, rfl⟩ := hf
    obtain ⟨h1, h2⟩ := alikeAll_of ha
    obtain ⟨a, ys, rfl, la, ra⟩ := rep_lst hx
    obtain ⟨its, rt, ht, _⟩ := I.list la.sq
    cases ru
    obtain ⟨as, hr⟩ := Reps.reads I ra rt
    refine PySem.W.max_list_default (xs := y :: xs) (I.ok.hd hc) ht.isList (by simpa using hr) h1 (by omega) (fun e => nomatch e) fun y' ys' i v h' tk bs e hv hrd hk => ?_
    cases e
    obtain ⟨w, hw, rw'⟩ := pick_rep I ra rt h1.1 (maxD_mem y xs) (by simpa using hv) hk hrd
    exact ⟨w, H, I.kept hk, hw, q _ _ Keep.refl (ResOk.zero rw')⟩
theorem te_maxd {k : Int} {j : Nat} {kp ip : Pos} (hc : X.calm = true) (hu : X.A.units + 70 < cLine) (hg : Gl X "max") (hm : X.mg "max" = none) (ha : PE X a (TEv X.K A0 EA W ka fa)) (hs : notStar a = true) :
    PE X (.Call (.Name "max" p) [a] [⟨some "default", .Constant (.int k) j ip, kp⟩] pos) (TEv X.K A0 EA W 0 fun r => (fa r).bind fun x r1 => lift (maxdD k x) r1) := by
  refine PE.imp (pe_callBK (cr_maxd k hc hu) hg hm (by rfl) (ta_cons ha ta_nil (star_cons hs)) (pk_cons pe_int pk_nil) (by decide) (by decide) (by rw [star_cons hs] <;> rfl) (by rw [star_cons hs] <;> rfl) rfl rfl rfl) fun σ H Q ⟨r, Fs, G, h⟩ => ?_
  refine ⟨r, Fs, G, ?_⟩
  cases e : fa r with
  | bad => simp only [e, Out.bind] at h; exact h.elim
  | exc x r' => simp only [e, Out.bind] at h ⊢; exact h
  | ok x r1 =>
    simp only [e, Out.bind] at h ⊢
    obtain ⟨d, hd, h2⟩ := h.lift
    intro vs H1 k1 G1 q1
    obtain ⟨v, rfl, rx⟩ := reps1 q1
    exact ⟨Sv A0 Fs, v, x, d, rfl, rfl, G1.alS, rx, hd, fun v H3 k3 q3 => h2 v H3 (k1.trans (kf k3)) (G1.keep0 k3) (q3.back k1)⟩
theorem te_gcd {x : Str} (hg : Gl X x) (hm : X.mg x = some (.builtin "math.gcd")) (ha : PE X a (TEv X.K A0 EA W ka fa)) (hb : PE X b (TEv X.K A0 EA W kb fb)) (hs : notStar a = true) (hs2 : notStar b = true) (hdb : (x == ("__debug__" : Str)) = false) :
    PE X (.Call (.Name x p) [a, b] [] pos) (TEv X.K A0 EA W 0 fun r => (fa r).bind fun x r1 => (fb r1).bind fun y r2 => lift (gcdD x y) r2) := by
  refine PE.imp (pe_callBfun cr_gcd hg hm (ta_cons ha (ta_cons hb ta_nil (star_cons hs2)) (star_cons hs)) hdb (star_cons hs) (star_none (by simp [hs2]))) fun σ H Q ⟨r, Fs, G, h⟩ => ?_
  refine ⟨r, Fs, G, ?_⟩
  cases e : fa r with
  | bad => simp only [e, Out.bind] at h; exact h.elim
  | exc x r' => simp only [e, Out.bind] at h ⊢; exact h
  | ok x r1 =>
    simp only [e, Out.bind] at h ⊢
    cases e2 : fb r1 with
    | bad => simp only [e2] at h; exact h.elim
    | exc x r' => simp only [e2] at h ⊢; exact h
    | ok y r2 =>
      simp only [e2] at h ⊢
      obtain ⟨d, hd, h2⟩ := h.lift
      cases x <;> cases y <;> simp only [gcdD, reduceCtorEq, Option.some.injEq] at hd
      subst hd
      intro vs H1 k1 G1 q1
      obtain ⟨v, w, rfl, rx, ry⟩ := reps2 q1
      exact ⟨_, _, by rw [rep_int rx, rep_int ry], h2 _ H1 k1 G1 (ResOk.zero (.int _))⟩
def mtName : Mt → Str
  | .index => "index" | .count => "count"
def rMtL (K : Fr) (m : Mt) : V → List V → Hp → VK → Prop := fun x xs H Q => ∃ (a : Addr) (ns : List Int) (k : Int) (n : Int), x = .ref a ∧ xs = [.int k] ∧ SqL K H a (ns.map V.int) ∧ mtI m ns k = some (.int n) ∧ Q (.int n) H
theorem mtI_index {ns : List Int} {k n : Int} (h : mtI .index ns k = some (.int n)) : k ∈ ns ∧ n = (ns.idxOf k : Nat) := by
  simp only [mtI, Option.ite_none_right_eq_some, Option.some.injEq, PyData.int.injEq] at h
  exact ⟨List.contains_iff_mem.mp h.1, h.2.symm⟩
theorem mtI_count {ns : List Int} {k n : Int} (h : mtI .count ns k = some (.int n)) : n = (ns.count k : Nat) := by
  simp only [mtI, Option.some.injEq, PyData.int.injEq] at h
  exact h.symm
theorem count_ints (k : Int) : ∀ ns : List Int, (ns.map PyData.int).countP (fun y => PyData.eqv y (.int k)) = ns.count k
  | [] => rfl
  | n :: ns => by
    simp only [List.map_cons, List.countP_cons, List.count_cons, count_ints k ns, PyData.eqv] <;> rfl
theorem pls_ints : ∀ ns : List Int, PyData.plainAll (ns.map PyData.int) = true
  | [] => rfl
  | n :: ns => by simp only [List.map_cons, PyData.plainAll, pls_ints ns]; rfl
theorem rep_ints {K : Fr} {H : Hp} {S : Addr → Prop} : ∀ ns : List Int, Reps K H S (ns.map V.int) (ns.map PyData.int)
  | [] => .nil
  | n :: ns => .cons (.int n) (rep_ints ns)
theorem mtr_indexL : MtR X "list.index" (rMtL X.K .index) := by
  intro pins s σ H x xs v us Q I rx rs ⟨a, ns, k, n, e1, e2, hs, hm, q⟩
  subst e1 e2
  cases rx
  obtain ⟨u, rfl, t, rfl⟩ := L2.vals1 rs
  obtain ⟨its, rv, pl, hz⟩ := I.list hs
  obtain ⟨hk, rfl⟩ := mtI_index hm
  exact PySem.SeqAt.list_index_ints pl.isList rv.ints (by rw [List.length_map] at hz; exact hz) hk ⟨.int _, H, I.tok _, ⟨_, rfl⟩, q⟩
theorem mtr_countL (hu : X.A.units + 70 < cLine) : MtR X "list.count" (rMtL X.K .count) := by
  intro pins s σ H x xs v us Q I rx rs ⟨a, ns, k, n, e1, e2, hs, hm, q⟩
  subst e1 e2
  cases rx
  obtain ⟨u, rfl, t, rfl⟩ := L2.vals1 rs
  obtain ⟨its, rv, pl, hz⟩ := I.list hs
  obtain rfl := mtI_count hm
  obtain ⟨as, hr⟩ := Reps.reads I (rep_ints (S := fun _ => False) ns) rv
  refine PySem.SeqAt.count_list_data pl.isList (by simpa using hr) (Reads.int k t) (pls_ints ns) rfl (by simp only [PyData.depth]; omega) ?_
  rw [count_ints]
  exact ⟨.int (ns.count k : Nat), H, I.tok _, ⟨_, rfl⟩, q⟩
theorem mtr_L (m : Mt) (hu : X.A.units + 70 < cLine) : ∃ id, PySem.Slot "list" (mtName m) id ∧ typeOf (.builtin id) = pure (.type "method_descriptor") ∧ MtR X id (rMtL X.K m) := by
  cases m
  · exact ⟨_, PySem.F.slot_list_index, PySem.F.type_list_index, mtr_indexL⟩
  · exact ⟨_, PySem.F.slot_list_count, PySem.F.type_list_count, mtr_countL hu⟩
theorem mtD_int {m : Mt} {ds es : List D} {d : D} (h : mtD m (.list ds) es = some d) : ∃ k ns n, es = [.int k] ∧ intsD ds = some ns ∧ mtI m ns k = some (.int n) ∧ d = .int n := by
  match es, h with
  | [.int k], h =>
    simp only [mtD] at h
    obtain ⟨ns, h1, h2⟩ := Option.bind_eq_some_iff.mp h
    have : ∃ n, d = .int n := by
      cases m
      · simp only [mtI, Option.ite_none_right_eq_some, Option.some.injEq] at h2
        exact ⟨_, h2.2.symm⟩
      · simp only [mtI, Option.some.injEq] at h2
        exact ⟨_, h2.symm⟩
    obtain ⟨n, rfl⟩ := this
    exact ⟨k, ns, n, rfl, h1, h2, rfl⟩
theorem te_mt (m : Mt) {o : Expr} {apos cpos : Pos} (hu : X.A.units + 70 < cLine) (ha : PE X o (TEv X.K A0 EA W ka fa)) (hb : PA X [b] (TAv X.K A0 EA W fs)) (hbase : attributeBase o (mtName m) X.env (eval o X.env) = eval o X.env) (hline : (apos.endLine == cpos.line) = true) (hs : notStar b = true) :
    PE X (.Call (.Attribute o (mtName m) apos) [b] [] cpos) (TEv X.K A0 EA W 0 fun r => (fa r).bind fun x r1 => (lift (seqD x) r1).bind fun _ r1 => (fs r1).bind fun ds r2 => lift (mtD m x ds) r2) := by
  obtain ⟨id1, s1, t1, m1⟩ := mtr_L (X := X) m hu
  have he : starEach [b] X.env = (false, eval b X.env) :: starEach [] X.env := star_cons hs
  refine PE.imp (pe_bm PySem.F.plainAttrs_list s1 t1 m1 ha hb hbase (by rw [he] <;> rfl) hline he rfl) fun σ H Q ⟨r, Fs, G, h⟩ => ⟨r, Fs, G, h.bind fun x r1 _ h1 => fun v1 H1 k1 G1 q1 => ?_⟩
  cases x <;> first | exact h1.elim | skip
  rename_i xs0 _
  obtain ⟨a, ys, rfl, la, ra⟩ := rep_lst q1.1
  refine ⟨.inl ⟨rfl, ys, la.sq⟩, r1, Fs, G1, ((show Pst X.K A0 EA W σ Fs H ((fs r1).bind fun ds r2 => lift (mtD m (.list xs0) ds) r2) _ from h1).bind (R' := fun ds r2 _ => ∃ d, mtD m (.list xs0) ds = some d ∧ ∀ v H', Keep (inF Fs) H H' → Good X.K A0 σ H' r2 Fs → ResOk X.K H H' (Sv A0 Fs) 0 v d → Q v H') fun ds r2 _ h2 => h2.lift).later k1 fun ds r2 ⟨d, hd, h3⟩ => fun vs H2 k2 G2 q2 => ?_⟩
  obtain ⟨k, ns, n, rfl, e1, e2, rfl⟩ := mtD_int hd
  obtain ⟨w, rfl, rw'⟩ := reps1 q2
  have e := ints_vals e1 ra
  subst e
  exact ⟨a, ns, k, n, rfl, by rw [rep_int rw'], (la.keep k2 sub_in).sq, e2, h3 _ H2 (k1.trans k2) G2 (ResOk.zero (.int _))⟩
end
end Cw
end

section
namespace Cw
open PySem PySem.Spec PyProof.Rows
/-- a walk's state that lasts while other things change -/
def Last (P : Heap → Prop) (a l : Addr) : Prop := ∀ {b : Addr} {h h' : Heap}, P h → Heap.ExtBut b h h' → a ≠ b → l ≠ b → P h'
section
variable {prog : Program} {w : World} {A : Around} {E : Value → Shared → Prop} {s : Shared}
/-- a walk's next item -/
def NxI (prog : Program) (w : World) (it : Addr) (P P' : Heap → Prop) (x : Value) : Prop :=
  ∀ {A : Around} {E : Value → Shared → Prop} {s : Shared} {Q : Value → Shared → Prop}, P s.heap → (∀ h', P' h' → Heap.SameBut it s.heap h' → Q x { s with heap := h' }) → wpAny (model prog w) A (Builtin.SmallTypes.nextOf (.ref it)) Q E s
theorem zm_item {z TI TO i1 i2 l1 l2 : Addr} {P1 P2 P1' P2' : Heap → Prop} {x y a b : Value} {Q : Value → Shared → Prop} (D : ZipApart z TI TO i1 i2 l1 l2)
    (zz : IsZip s.heap z TI TO .none) (tI : IsPair s.heap TI (.ref i1) (.ref i2)) (tO : IsPair s.heap TO a b) (p1 : P1 s.heap) (p2 : P2 s.heap)
    (n1 : NxI prog w i1 P1 P1' x) (n2 : NxI prog w i2 P2 P2' y) (k1 : Last P1 i1 l1) (k2 : Last P2 i2 l2) (k1' : Last P1' i1 i1) (k2' : Last P2' i2 i2)
    (q : ∀ h', IsZip h' z TI TO (rawInt s.heap.objs.size) → IsPair h' TO x y → P1' h' → P2' h' → IsPair h' s.heap.objs.size x y → h'.objs.size = s.heap.objs.size + 1 →
      (∀ c o, c ≠ z → c ≠ TO → c ≠ i1 → c ≠ i2 → s.heap.get? c = some o → h'.get? c = some o) → Q (.ref s.heap.objs.size) { s with heap := h' }) :
    wpAny (model prog w) A (Builtin.«zip.__next__» ⟨[.ref z], []⟩) (fun fin s' => ∃ v, fin = .done (.ret v) ∧ Q v s') E s := by
  show wpAny _ _ (field (.ref z) 2 >>= _) _ _ _
  refine wpAny_bind (wpAny_field zz rfl (x := .bool false) rfl ?_)
  show wpAny _ _ (field (.ref z) 3 >>= _) _ _ _
  refine wpAny_bind (wpAny_field zz rfl (x := .ref TI) rfl (wpAny_bind (wpAny_seqItems tI rfl ?_)))
  show wpAny _ _ (Builtin.SmallTypes.ownedTupleIsFree (.ref z) >>= _) _ _ _
  refine wpAny_bind ?_
  unfold Builtin.SmallTypes.ownedTupleIsFree
  refine wpAny_bind (wpAny_field zz rfl (x := .none) rfl (wpAny_pure ?_))
  simp only [if_true]
  refine wpAny_bind (wpAny_rule (wpAny_bind (wpAny_field zz rfl (x := .ref TO) rfl (wpAny_bind (wpAny_setField_rec zz (by simp) fun ha za sa => ?_)))))
  replace za : IsZip ha z TI TO .ellipsis := za
  refine wpAny_bind ?_
  simp only [List.zipIdx_cons, List.zipIdx_nil, List.forIn_cons, List.forIn_nil]
  -- the first walk
  refine wpAny_bind (wpAny_bind (wpAny_onRaise ?_))
  show wpAny _ _ (Builtin.SmallTypes.nextOf (.ref i1) >>= _) _ _ _
  refine wpAny_bind (n1 (k1 p1 sa.extBut D.i1z D.l1z) fun hb pb sb => wpAny_pure ?_)
  have tOb : IsPair hb TO a b := sb.extBut _ _ D.TOi1 (sa.extBut _ _ D.TOz tO)
  refine wpAny_bind (wpAny_seqItems tOb rfl (wpAny_bind (wpAny_updateSeq_pair tOb fun hc tOc sc => ?_)))
  replace tOc : IsPair hc TO x b := tOc
  refine wpAny_bind (wpAny_letGo (wpAny_pure ?_))
  -- the second walk
  refine wpAny_bind (wpAny_bind (wpAny_onRaise ?_))
  show wpAny _ _ (Builtin.SmallTypes.nextOf (.ref i2) >>= _) _ _ _
  have p2c : P2 hc := k2 (k2 (k2 p2 sa.extBut D.i2z D.l2z) sb.extBut D.i12.symm D.l2i1) sc.extBut D.TOi2.symm D.l2TO
  refine wpAny_bind (n2 p2c fun hd pd sd => wpAny_pure ?_)
  have tOd : IsPair hd TO x b := sd.extBut _ _ D.TOi2 tOc
  refine wpAny_bind (wpAny_seqItems tOd rfl (wpAny_bind (wpAny_updateSeq_pair tOd fun he tOe se => ?_)))
  replace tOe : IsPair he TO x y := tOe
  refine wpAny_bind (wpAny_letGo (wpAny_pure (wpAny_pure (wpAny_bind (wpAny_seqItems tOe rfl (wpAny_bind (wpAny_newTuple ?_)))))))
  have size : he.objs.size = s.heap.objs.size := by rw [se.1, sd.1, sc.1, sb.1, sa.1]
  have ze : IsZip he z TI TO .ellipsis := se.extBut _ _ D.TOz.symm (sd.extBut _ _ D.i2z.symm (sc.extBut _ _ D.TOz.symm (sb.extBut _ _ D.i1z.symm za)))
  have rest : ∀ c o, c ≠ z → c ≠ TO → c ≠ i1 → c ≠ i2 → s.heap.get? c = some o → he.get? c = some o := fun c o h1 h2 h3 h4 e =>
    se.extBut _ _ h2 (sd.extBut _ _ h4 (sc.extBut _ _ h2 (sb.extBut _ _ h3 (sa.extBut _ _ h1 e))))
  have p1e : P1' he := k1' (k1' (k1' pb sc.extBut D.TOi1.symm D.TOi1.symm) sd.extBut D.i12 D.i12) se.extBut D.TOi1.symm D.TOi1.symm
  have p2e : P2' he := k2' pd se.extBut D.TOi2.symm D.TOi2.symm
  have zlt : z < he.objs.size := Heap.lt_size ze
  show wpAny _ _ (Builtin.SmallTypes.ownedTupleHandOut (.ref z) (.ref he.objs.size) >>= _) _ _ _
  refine wpAny_bind ?_
  unfold Builtin.SmallTypes.ownedTupleHandOut
  have zf : IsZip (he.push { cls := .type "tuple", data := .seq #[x, y] }) z TI TO .ellipsis := Heap.get?_push_of_some _ ze
  refine wpAny_bind (wpAny_setField_rec zf (by simp) fun hg zg sg => ?_)
  replace zg : IsZip hg z TI TO (rawInt he.objs.size) := zg
  refine wpAny_setField_rec zg (by simp) fun hi zi si => ?_
  replace zi : IsZip hi z TI TO (rawInt he.objs.size) := zi
  have up : Heap.ExtBut z he hi := fun c o h1 e => si.extBut _ _ h1 (sg.extBut _ _ h1 (Heap.get?_push_of_some _ e))
  have tN : IsPair hi he.objs.size x y := si.extBut _ _ (Nat.ne_of_gt zlt) (sg.extBut _ _ (Nat.ne_of_gt zlt) (Heap.get?_push_size _ rfl))
  have sizeI : hi.objs.size = he.objs.size + 1 := by rw [si.1, sg.1, Heap.size_push]
  rw [size] at zi tN sizeI
  refine wpAny_pure ⟨_, rfl, ?_⟩
  show Q (.ref he.objs.size) _
  rw [size]
  exact q hi zi (up _ _ D.TOz tOe) (k1' p1e up D.i1z D.i1z) (k2' p2e up D.i2z D.i2z) tN sizeI fun c o h1 h2 h3 h4 e => up c o h1 (rest c o h1 h2 h3 h4 e)
end
end Cw
namespace Cw
open PySem PySem.Spec PyProof.Rows
section
variable {prog : Program} {w : World} {A : Around} {E : Value → Shared → Prop} {s : Shared}
/-- a walk's end -/
def EnI (prog : Program) (w : World) (it : Addr) (P : Heap → Prop) : Prop :=
  ∀ {A : Around} {E : Value → Shared → Prop} {s : Shared} {Q : Value → Shared → Prop}, A.handled = none → P s.heap → (∀ h' e, Heap.ExtBut it s.heap h' → (∃ o, h'.get? e = some o ∧ o.cls = .type "StopIteration") → E (.ref e) { s with heap := h' }) → wpAny (model prog w) A (Builtin.SmallTypes.nextOf (.ref it)) Q E s
theorem zm_end (hh : A.handled = none) {z TI TO i1 i2 l1 l2 : Addr} {P1 P2 P1' : Heap → Prop} {x a b : Value} {Q : Fin → Shared → Prop} (D : ZipApart z TI TO i1 i2 l1 l2)
    (zz : IsZip s.heap z TI TO .none) (tI : IsPair s.heap TI (.ref i1) (.ref i2)) (tO : IsPair s.heap TO a b) (p1 : P1 s.heap) (p2 : P2 s.heap) (k1 : Last P1 i1 l1) (k2 : Last P2 i2 l2)
    (n : EnI prog w i1 P1 ∨ (NxI prog w i1 P1 P1' x ∧ EnI prog w i2 P2))
    (q : ∀ h' e, (∀ c o, c ≠ z → c ≠ TO → c ≠ i1 → c ≠ i2 → s.heap.get? c = some o → h'.get? c = some o) → (∃ o, h'.get? e = some o ∧ o.cls = .type "StopIteration") → E (.ref e) { s with heap := h' }) :
    wpAny (model prog w) A (Builtin.«zip.__next__» ⟨[.ref z], []⟩) Q E s := by
  show wpAny _ _ (field (.ref z) 2 >>= _) _ _ _
  refine wpAny_bind (wpAny_field zz rfl (x := .bool false) rfl ?_)
  show wpAny _ _ (field (.ref z) 3 >>= _) _ _ _
  refine wpAny_bind (wpAny_field zz rfl (x := .ref TI) rfl (wpAny_bind (wpAny_seqItems tI rfl ?_)))
  show wpAny _ _ (Builtin.SmallTypes.ownedTupleIsFree (.ref z) >>= _) _ _ _
  refine wpAny_bind ?_
  unfold Builtin.SmallTypes.ownedTupleIsFree
  refine wpAny_bind (wpAny_field zz rfl (x := .none) rfl (wpAny_pure ?_))
  simp only [if_true]
  refine wpAny_bind (wpAny_rule (wpAny_bind (wpAny_field zz rfl (x := .ref TO) rfl (wpAny_bind (wpAny_setField_rec zz (by simp) fun ha za sa => ?_)))))
  replace za : IsZip ha z TI TO .ellipsis := za
  refine wpAny_bind ?_
  simp only [List.zipIdx_cons, List.zipIdx_nil, List.forIn_cons, List.forIn_nil]
  refine wpAny_bind (wpAny_bind (wpAny_onRaise ?_))
  show wpAny _ _ (Builtin.SmallTypes.nextOf (.ref i1) >>= _) _ _ _
  rcases n with n1 | ⟨n1, n2⟩
  · refine wpAny_bind (n1 hh (k1 p1 sa.extBut D.i1z D.l1z) fun hb e sb ⟨oe, ge, ce⟩ => ?_)
    have zb : IsZip hb z TI TO .ellipsis := sb _ _ D.i1z.symm za
    have ez : e ≠ z := fun h => by subst h; rw [zb] at ge; cases ge; simp at ce
    exact wpAny_setField_rec zb (by simp) fun hc _ sc => q hc e (fun c o h1 _ h3 _ g => sc.extBut _ _ h1 (sb _ _ h3 (sa.extBut _ _ h1 g))) ⟨oe, sc.extBut _ _ ez ge, ce⟩
  · refine wpAny_bind (n1 (k1 p1 sa.extBut D.i1z D.l1z) fun hb pb sb => wpAny_pure ?_)
    have tOb : IsPair hb TO a b := sb.extBut _ _ D.TOi1 (sa.extBut _ _ D.TOz tO)
    refine wpAny_bind (wpAny_seqItems tOb rfl (wpAny_bind (wpAny_updateSeq_pair tOb fun hc tOc sc => ?_)))
    refine wpAny_bind (wpAny_letGo (wpAny_pure (wpAny_bind (wpAny_bind (wpAny_onRaise ?_)))))
    show wpAny _ _ (Builtin.SmallTypes.nextOf (.ref i2) >>= _) _ _ _
    have p2c : P2 hc := k2 (k2 (k2 p2 sa.extBut D.i2z D.l2z) sb.extBut D.i12.symm D.l2i1) sc.extBut D.TOi2.symm D.l2TO
    refine wpAny_bind (n2 hh p2c fun hd e sd ⟨oe, ge, ce⟩ => ?_)
    have zd : IsZip hd z TI TO .ellipsis := sd _ _ D.i2z.symm (sc.extBut _ _ D.TOz.symm (sb.extBut _ _ D.i1z.symm za))
    have ez : e ≠ z := fun h => by subst h; rw [zd] at ge; cases ge; simp at ce
    exact wpAny_setField_rec zd (by simp) fun hf _ sf => q hf e (fun c o h1 h2 h3 h4 g => sf.extBut _ _ h1 (sd _ _ h4 (sc.extBut _ _ h2 (sb.extBut _ _ h3 (sa.extBut _ _ h1 g))))) ⟨oe, sf.extBut _ _ ez ge, ce⟩
/-- the same of next() -/
theorem zm_next {z TI TO i1 i2 l1 l2 : Addr} {P1 P2 P1' P2' : Heap → Prop} {x y a b : Value} {Q : Option Value → Shared → Prop} (D : ZipApart z TI TO i1 i2 l1 l2)
    (zz : IsZip s.heap z TI TO .none) (tI : IsPair s.heap TI (.ref i1) (.ref i2)) (tO : IsPair s.heap TO a b) (p1 : P1 s.heap) (p2 : P2 s.heap)
    (n1 : NxI prog w i1 P1 P1' x) (n2 : NxI prog w i2 P2 P2' y) (k1 : Last P1 i1 l1) (k2 : Last P2 i2 l2) (k1' : Last P1' i1 i1) (k2' : Last P2' i2 i2)
    (q : ∀ h', IsZip h' z TI TO (rawInt s.heap.objs.size) → IsPair h' TO x y → P1' h' → P2' h' → IsPair h' s.heap.objs.size x y → h'.objs.size = s.heap.objs.size + 1 →
      (∀ c o, c ≠ z → c ≠ TO → c ≠ i1 → c ≠ i2 → s.heap.get? c = some o → h'.get? c = some o) → Q (some (.ref s.heap.objs.size)) { s with heap := h' }) :
    wpAny (model prog w) A (pyNext (.ref z)) Q E s := by
  have T : s.TypeIs (.ref z) "zip" := ⟨_, zz, rfl⟩
  unfold pyNext
  refine wpAny_bind (wpAny_attempt (wpAny_callSpecial?_slot (name := Str.ofString "__next__") T F.slot_zip_next (wpAny_call_entry F.slot_zip_next T F.entry_zip_next ?_ (F.args_zip_next_1 _))))
  exact zm_item D zz tI tO p1 p2 n1 n2 k1 k2 k1' k2' fun h' a1 a2 a3 a4 a5 a6 a7 => wpAny_pure (q h' a1 a2 a3 a4 a5 a6 a7)
theorem zm_stop (hh : A.handled = none) {z TI TO i1 i2 l1 l2 : Addr} {P1 P2 P1' : Heap → Prop} {x a b : Value} {Q : Option Value → Shared → Prop} (D : ZipApart z TI TO i1 i2 l1 l2)
    (zz : IsZip s.heap z TI TO .none) (tI : IsPair s.heap TI (.ref i1) (.ref i2)) (tO : IsPair s.heap TO a b) (p1 : P1 s.heap) (p2 : P2 s.heap) (k1 : Last P1 i1 l1) (k2 : Last P2 i2 l2)
    (n : EnI prog w i1 P1 ∨ (NxI prog w i1 P1 P1' x ∧ EnI prog w i2 P2))
    (q : ∀ h', (∀ c o, c ≠ z → c ≠ TO → c ≠ i1 → c ≠ i2 → s.heap.get? c = some o → h'.get? c = some o) → Q none { s with heap := h' }) : wpAny (model prog w) A (pyNext (.ref z)) Q E s := by
  have T : s.TypeIs (.ref z) "zip" := ⟨_, zz, rfl⟩
  unfold pyNext
  refine wpAny_bind (wpAny_attempt (wpAny_callSpecial?_slot (name := Str.ofString "__next__") T F.slot_zip_next (wpAny_call_entry F.slot_zip_next T F.entry_zip_next ?_ (F.args_zip_next_1 _))))
  refine zm_end (A := A.in1) (show A.in1.handled = none from hh) (x := x) (P1' := P1') D zz tI tO p1 p2 k1 k2 n fun h' e k ⟨o, go, co⟩ => ?_
  exact wpAny_bind (wpAny_isInstance (T := "StopIteration") (b := true) ⟨o, go, co⟩ isSubtype_stop (wpAny_pure (q _ k)))
end
end Cw
namespace Cw
open PySem PySem.Spec PyProof.Rows
theorem last_T {it l : Addr} {i : Nat} {xs : Array Value} : Last (fun h => h.IsTupleIter it l i ∧ h.IsTuple l xs) it l := fun p e h1 h2 => ⟨p.1.extBut e h1, p.2.extBut e h2⟩
theorem last_L {it l : Addr} {i : Nat} {xs : Array Value} : Last (fun h => h.IsListIter it l i ∧ h.IsList l xs) it l := fun p e h1 h2 => ⟨p.1.extBut e h1, p.2.extBut e h2⟩
theorem last_T1 {it l : Addr} {i : Nat} : Last (fun h => h.IsTupleIter it l i) it it := fun p e h1 _ => p.extBut e h1
theorem last_L1 {it l : Addr} {i : Nat} : Last (fun h => h.IsListIter it l i) it it := fun p e h1 _ => p.extBut e h1
theorem nx_T {prog : Program} {w : World} {it l : Addr} {i : Nat} {xs : Array Value} {x : Value} (hx : xs[i]? = some x) : NxI prog w it (fun h => h.IsTupleIter it l i ∧ h.IsTuple l xs) (fun h => h.IsTupleIter it l (i + 1)) x := fun p q => RZ.nextOf_tuple_item p.1 p.2 hx q
theorem nx_L {prog : Program} {w : World} {it l : Addr} {i : Nat} {xs : Array Value} {x : Value} (hx : xs[i]? = some x) : NxI prog w it (fun h => h.IsListIter it l i ∧ h.IsList l xs) (fun h => h.IsListIter it l (i + 1)) x := fun p q => wpAny_nextOf_list_item p.1 p.2 hx q
theorem en_T {prog : Program} {w : World} {it l : Addr} {i : Nat} {xs : Array Value} (hx : xs[i]? = none) : EnI prog w it (fun h => h.IsTupleIter it l i ∧ h.IsTuple l xs) := fun hh p q => RZ.nextOf_tuple_end hh p.1 p.2 hx q
theorem en_L {prog : Program} {w : World} {it l : Addr} {i : Nat} {xs : Array Value} (hx : xs[i]? = none) : EnI prog w it (fun h => h.IsListIter it l i ∧ h.IsList l xs) := fun hh p q => wpAny_nextOf_list_end hh p.1 p.2 hx q
abbrev zmA (h : Heap) (l1 : Addr) : Heap := h.push { cls := .type "tuple_iterator", data := .fields #[.ref l1, .int 0 0] }
abbrev zmB (h : Heap) (l1 l2 : Addr) : Heap := (zmA h l1).push { cls := .type "list_iterator", data := .fields #[.ref l2, .int 0 0] }
abbrev zmC (h : Heap) (l1 l2 : Addr) : Heap := (zmB h l1 l2).push { cls := .type "tuple", data := .seq #[.ref h.objs.size, .ref (zmA h l1).objs.size] }
abbrev zmD (h : Heap) (l1 l2 : Addr) : Heap := (zmC h l1 l2).push { cls := .type "tuple", data := .seq #[.none, .none] }
abbrev zmE (h : Heap) (l1 l2 : Addr) : Heap := (zmD h l1 l2).push { cls := .type "zip", data := .fields #[.none, .bool false, .bool false, .ref (zmB h l1 l2).objs.size, .ref (zmC h l1 l2).objs.size] }
theorem zm_new (l1 l2 : Addr) (xs ys : Array Value) :
    Meets (Builtin.«zip.__new__» ⟨[.type "zip", .ref l1, .ref l2], []⟩) (fun _ R s => s.heap.IsTuple l1 xs ∧ s.heap.IsList l2 ys ∧ R (.ok (.ret (.ref (zmD s.heap l1 l2).objs.size))) { s with heap := zmE s.heap l1 l2 }) :=
  .of_wp fun prog w A R s h => by
    obtain ⟨hp, g, d, tk, os⟩ := s
    obtain ⟨t1, t2, h⟩ := h
    have sz := sub_zip
    have u1 : Heap.IsTuple (Shared.heap ⟨hp, g, d, tk, os⟩) l1 xs := t1
    have u2 : Heap.IsList (Shared.heap ⟨hp.push { cls := .type "tuple_iterator", data := .fields #[.ref l1, .int 0 0] }, g, d, tk, os⟩) l2 ys := Heap.IsList.push t2 _
    wp_walk using wpAny_pyIter_tuple u1, wpAny_pyIter_list u2
    exact ⟨_, rfl, h⟩
theorem zm_call {prog : Program} {w : World} {A : Around} {E : Value → Shared → Prop} {s : Shared} {l1 l2 : Addr} {xs ys : Array Value} {Q : Value → Shared → Prop} (t1 : s.heap.IsTuple l1 xs) (t2 : s.heap.IsList l2 ys)
    (h : ∀ h', IsZip h' (s.heap.objs.size + 4) (s.heap.objs.size + 2) (s.heap.objs.size + 3) .none ∧ IsPair h' (s.heap.objs.size + 2) (.ref s.heap.objs.size) (.ref (s.heap.objs.size + 1)) ∧ IsPair h' (s.heap.objs.size + 3) .none .none ∧
      h'.IsTupleIter s.heap.objs.size l1 0 ∧ h'.IsListIter (s.heap.objs.size + 1) l2 0 → (∀ c o, s.heap.get? c = some o → h'.get? c = some o) → Q (.ref (s.heap.objs.size + 4)) { s with heap := h' }) :
    wpAny (model prog w) A (call (.type "zip") [.ref l1, .ref l2]) Q E s := by
  refine callType_new F.called_zip (by decide) (F.typeCall_zip_2 _ _) (F.newCall_zip_2 _ _) (fun o => F.args_object_init_3 o _ _) F.entry_zip_new (zm_new l1 l2 xs ys) ⟨t1, t2, ?_⟩
  have nA : (zmA s.heap l1).objs.size = s.heap.objs.size + 1 := Heap.size_push ..
  have nB : (zmB s.heap l1 l2).objs.size = s.heap.objs.size + 2 := by rw [Heap.size_push, nA]
  have nC : (zmC s.heap l1 l2).objs.size = s.heap.objs.size + 3 := by rw [Heap.size_push, nB]
  have nD : (zmD s.heap l1 l2).objs.size = s.heap.objs.size + 4 := by rw [Heap.size_push, nC]
  have gE : (zmE s.heap l1 l2).get? (s.heap.objs.size + 4) = some { cls := .type "zip", data := .fields #[.none, .bool false, .bool false, .ref (s.heap.objs.size + 2), .ref (s.heap.objs.size + 3)] } := by
    have g : (zmE s.heap l1 l2).get? (zmD s.heap l1 l2).objs.size = some { cls := .type "zip", data := .fields #[.none, .bool false, .bool false, .ref (zmB s.heap l1 l2).objs.size, .ref (zmC s.heap l1 l2).objs.size] } := Heap.get?_push_size _ rfl
    rw [nD, nB, nC] at g
    exact g
  have gD : (zmE s.heap l1 l2).get? (s.heap.objs.size + 3) = some { cls := .type "tuple", data := .seq #[.none, .none] } := by
    rw [← nC]; exact Heap.get?_push_of_some _ (Heap.get?_push_size _ rfl)
  have gC : (zmE s.heap l1 l2).get? (s.heap.objs.size + 2) = some { cls := .type "tuple", data := .seq #[.ref s.heap.objs.size, .ref (s.heap.objs.size + 1)] } := by
    have g : (zmC s.heap l1 l2).get? (zmB s.heap l1 l2).objs.size = some { cls := .type "tuple", data := .seq #[.ref s.heap.objs.size, .ref (zmA s.heap l1).objs.size] } := Heap.get?_push_size _ rfl
    rw [nB, nA] at g
    exact Heap.get?_push_of_some _ (Heap.get?_push_of_some _ g)
  have gB : (zmE s.heap l1 l2).get? (s.heap.objs.size + 1) = some { cls := .type "list_iterator", data := .fields #[.ref l2, .int 0 0] } := by
    rw [← nA]; exact Heap.get?_push_of_some _ (Heap.get?_push_of_some _ (Heap.get?_push_of_some _ (Heap.get?_push_size _ rfl)))
  have gA : (zmE s.heap l1 l2).get? s.heap.objs.size = some { cls := .type "tuple_iterator", data := .fields #[.ref l1, .int 0 0] } :=
    Heap.get?_push_of_some _ (Heap.get?_push_of_some _ (Heap.get?_push_of_some _ (Heap.get?_push_of_some _ (Heap.get?_push_size _ rfl))))
  show _ ∧ _
  rw [nD]
  exact ⟨⟨_, gE, rfl⟩, h _ ⟨gE, gC, gD, ⟨_, gA, rfl, rfl⟩, ⟨_, gB, rfl, rfl⟩⟩ fun c o x => Heap.get?_push_of_some _ (Heap.get?_push_of_some _ (Heap.get?_push_of_some _ (Heap.get?_push_of_some _ (Heap.get?_push_of_some _ x))))⟩
end Cw
namespace Cw
open PySem PySem.Spec PyProof.Rows L2
/-- a tuple and a list, walked side by side -/
def ItzM (K : PySem.W.Frag) (a b : Addr) : It :=
  ⟨fun i H => ∃ (xs ys : List V) (x y : V), SqT K H a xs ∧ SqL K H b ys ∧ xs[i]? = some x ∧ ys[i]? = some y,
    fun i H v H' => ∃ T x y, v = .ref T ∧ H T = none ∧ H' = upd H T (.tup [x, y]) ∧ (∀ xs, SqT K H a xs → xs[i]? = some x) ∧ ∀ ys, SqL K H b ys → ys[i]? = some y,
    fun i H => ∃ xs ys : List V, SqT K H a xs ∧ SqL K H b ys ∧ (xs.length ≤ i ∨ ys.length ≤ i)⟩
def zmT (a b z TI TO i1 i2 : Addr) (i : Nat) (h : Heap) : Prop := IsZip h z TI TO .none ∧ IsPair h TI (.ref i1) (.ref i2) ∧ (∃ x y, IsPair h TO x y) ∧ h.IsTupleIter i1 a i ∧ h.IsListIter i2 b i
theorem mem5 {c z TI TO i1 i2 : Addr} (h : c ∈ [z, TI, TO, i1, i2]) : c = z ∨ c = TI ∨ c = TO ∨ c = i1 ∨ c = i2 := by simpa using h
theorem zm_turn {P : Program} {w : World} {K : PySem.W.Frag} {elts : List Expr} {kk : Nat} {tpos : Pos} {a b z TI TO i1 i2 : Addr} (D : ZipApart z TI TO i1 i2 a b) :
    Turn P w K (.Tuple elts kk tpos) (ItzM K a b) [z, TI, TO, i1, i2] z (zmT a b z TI TO i1 i2) where
  mem := by simp
  obj := fun i h st c hc => by
    obtain ⟨g1, g2, ⟨x, y, g3⟩, ⟨o1, g4, _, d4⟩, ⟨o2, g5, _, d5⟩⟩ := st
    rcases mem5 hc with rfl | rfl | rfl | rfl | rfl
    · exact ⟨_, g1, fun v q => by cases q⟩
    · exact ⟨_, g2, fun v q => by cases q⟩
    · exact ⟨_, g3, fun v q => by cases q⟩
    · exact ⟨o1, g4, fun v q => by rw [d4] at q; cases q⟩
    · exact ⟨o2, g5, fun v q => by rw [d5] at q; cases q⟩
  keep := fun i h h' st k => by
    obtain ⟨g1, g2, ⟨x, y, g3⟩, g4, g5⟩ := st
    exact ⟨k z (by simp) _ g1, k TI (by simp) _ g2, ⟨x, y, k TO (by simp) _ g3⟩, g4.at fun o q => k i1 (by simp) o q, g5.at fun o q => k i2 (by simp) o q⟩
  item := by
    intro X hP hw hK hc i pins s σ H E I hf st hg
    subst hP hw hK
    obtain ⟨g1, g2, ⟨x0, y0, g3⟩, g4, g5⟩ := st
    obtain ⟨xs, ys, x, y, sx, sy, ex, ey⟩ := hg
    obtain ⟨us, rv, pt, _⟩ := I.tuple sx
    obtain ⟨ws, rw', pl, _⟩ := I.list sy
    obtain ⟨u, hu, ru⟩ := rv.get ex
    obtain ⟨v, hv, rv'⟩ := rw'.get ey
    have zl : z < s.heap.objs.size := Heap.lt_size g1
    refine zm_next D g1 g2 g3 (P1 := fun h => h.IsTupleIter i1 a i ∧ h.IsTuple a us.toArray) (P2 := fun h => h.IsListIter i2 b i ∧ h.IsList b ws.toArray) ⟨g4, pt⟩ ⟨g5, pl.isList⟩ (nx_T (x := u) (by simpa using hu)) (nx_L (x := v) (by simpa using hv)) last_T last_L last_T1 last_L1 fun h' z' tO' w4 w5 tN sz k => ?_
    refine ⟨_, rfl, wpAny_letOwnedTupleGo_zip (s := { s with heap := h' }) z' fun h2 z2 sb => ?_⟩
    have tN2 : h2.get? s.heap.objs.size = some { cls := .type "tuple", data := .seq #[u, v] } := (sb.2 _ (Nat.ne_of_gt zl)).trans tN
    have new : ObjOk X.prog X.w (upd H s.heap.objs.size (.tup [x, y])) h2 s.heap.objs.size (.tup [x, y]) := ⟨by show 2 ≤ sizeLine; decide, [u, v], .cons ru (.cons rv' .nil), ⟨_, tN2, rfl, _, rfl⟩⟩
    have old : ∀ c o, c ∉ [z, TI, TO, i1, i2] → s.heap.get? c = some o → h2.get? c = some o := fun c o hb q =>
      (sb.2 c fun e => hb (by simp [e])).trans (k c o (fun e => hb (by simp [e])) (fun e => hb (by simp [e])) (fun e => hb (by simp [e])) (fun e => hb (by simp [e])) q)
    have I1 : Inv X pins σ (upd H s.heap.objs.size (.tup [x, y])) { s with heap := h2 } := I.turnedNew (t' := s.toks) (ch := [z, TI, TO, i1, i2]) old hf (Nat.le_refl _) new
    refine ⟨.ref s.heap.objs.size, _, I1, rfl, ⟨_, x, y, rfl, I.hok.fresh (Nat.le_refl _), rfl, fun l hl => by rw [I.tuple_inj hl sx]; exact ex, fun l hl => by rw [I.list_inj hl sy]; exact ey⟩, ⟨z2, ?_, ⟨u, v, ?_⟩, ?_, ?_⟩, fun c hcm => ?_⟩
    · exact (sb.2 _ D.TIz).trans (k _ _ D.TIz D.TITO D.TIi1 D.TIi2 g2)
    · exact (sb.2 _ D.TOz).trans tO'
    · exact w4.at fun o q => (sb.2 _ D.i1z).trans q
    · exact w5.at fun o q => (sb.2 _ D.i2z).trans q
    · have lt : c < s.heap.objs.size := by
        rcases mem5 hcm with rfl | rfl | rfl | rfl | rfl
        · exact zl
        · exact Heap.lt_size g2
        · exact Heap.lt_size g3
        · obtain ⟨_, e, _⟩ := g4; exact Heap.lt_size e
        · obtain ⟨_, e, _⟩ := g5; exact Heap.lt_size e
      rw [upd_ne (Nat.ne_of_lt lt)]
      exact (hf c hcm).1
  done := by
    intro X hP hw hK hc i pins s σ H E I hf st hg
    subst hP hw hK
    obtain ⟨g1, g2, ⟨x0, y0, g3⟩, g4, g5⟩ := st
    obtain ⟨xs, ys, sx, sy, hend⟩ := hg
    obtain ⟨us, rv, pt, _⟩ := I.tuple sx
    obtain ⟨ws, rw', pl, _⟩ := I.list sy
    have n1 := rv.length
    have n2 := rw'.length
    have fin : ∀ h', (∀ c o, c ≠ z → c ≠ TO → c ≠ i1 → c ≠ i2 → s.heap.get? c = some o → h'.get? c = some o) → Inv X pins σ H { s with heap := h' } := fun h' k =>
      I.turnedL (t' := s.toks) (ch := [z, TI, TO, i1, i2]) (fun c o hb q => k c o (fun e => hb (by simp [e])) (fun e => hb (by simp [e])) (fun e => hb (by simp [e])) (fun e => hb (by simp [e])) q) hf
    cases hx : us.toArray[i]? with
    | none => exact zm_stop (I.ok.hd hc) D g1 g2 g3 (P1 := fun h => h.IsTupleIter i1 a i ∧ h.IsTuple a us.toArray) (P2 := fun h => h.IsListIter i2 b i ∧ h.IsList b ws.toArray) (P1' := fun h => h.IsTupleIter i1 a (i + 1)) (x := .none) ⟨g4, pt⟩ ⟨g5, pl.isList⟩ last_T last_L (.inl (en_T hx)) fun h' k => ⟨rfl, fin h' k⟩
    | some u =>
      have hy : ws.toArray[i]? = none := by
        rcases hend with q | q
        · have : us.toArray[i]? = none := by simp; omega
          rw [this] at hx; cases hx
        · simp; omega
      exact zm_stop (I.ok.hd hc) D g1 g2 g3 (P1 := fun h => h.IsTupleIter i1 a i ∧ h.IsTuple a us.toArray) (P2 := fun h => h.IsListIter i2 b i ∧ h.IsList b ws.toArray) (P1' := fun h => h.IsTupleIter i1 a (i + 1)) (x := u) ⟨g4, pt⟩ ⟨g5, pl.isList⟩ last_T last_L (.inr ⟨nx_T hx, en_L hy⟩) fun h' k => ⟨rfl, fin h' k⟩
  self := fun A i s Q E st h => wpAny_pyIter_zip st.1 h
end Cw
namespace Cw
open PySem PySem.Spec PyProof.Rows L2
/-- zip of two lists, two tuples, a tuple and a list -/
def iZip3 (K : PySem.W.Frag) (ta : TA) : TI := fun σ H R => ta σ H fun vs H1 => ∃ a b xs ys, vs = [.ref a, .ref b] ∧
  ((SqL K H1 a xs ∧ SqL K H1 b ys ∧ R (Itz K a b) H1) ∨ (SqT K H1 a xs ∧ SqT K H1 b ys ∧ R (RZ.ItzT K a b) H1) ∨ (SqT K H1 a xs ∧ SqL K H1 b ys ∧ R (ItzM K a b) H1))
theorem pi_zip3 {X : Cx} {e e2 : Expr} {ta : TA} {p pos tpos : Pos} {elts : List Expr} {kk : Nat} (hg : Gl X "zip") (hm : X.mg "zip" = none) (ha : PA X [e, e2] ta)
    (hs : starEach [e, e2] X.env = (false, eval e X.env) :: starEach [e2] X.env := by rfl) (hpl : (backTo pos (starEach [e2] X.env)).any (·.1) = false := by rfl) :
    PI X (.Tuple elts kk tpos) (.Call (.Name "zip" p) [e, e2] [] pos) (iZip3 X.K ta) := by
  refine ⟨fun pins s σ H R I h => Call_ (ld_blt I hg hm PyProof.Rows.boot_zip (PyProof.Rows.callWith_type1 (thn (ha.run pos pins s σ H _ I h) ?_) hs hpl))⟩
  rintro us s1 ⟨vs, H1, I1, r1, a, b, xs, ys, rfl, q1⟩
  cases r1 with
  | cons r r2 => cases r2 with
    | cons r' r3 =>
      cases r3
      cases r
      cases r'
      generalize hn : s1.heap.objs.size = n
      have fp : ∀ c, c ∈ [n + 4, n + 2, n + 3, n, n + 1] → FpOk X pins H1 c := fun c hcm => by
        have hle : s1.heap.objs.size ≤ c := by rcases mem5 hcm with rfl | rfl | rfl | rfl | rfl <;> omega
        exact I1.fpOk hle (I1.hok.fresh hle)
      rcases q1 with ⟨sx, sy, q⟩ | ⟨sx, sy, q⟩ | ⟨sx, sy, q⟩
      · obtain ⟨u, _, p1, _⟩ := I1.list sx
        obtain ⟨v, _, p2, _⟩ := I1.list sy
        refine call_zip_2 p1.isList p2.isList fun h' g1 g2 g3 g4 g5 sz k => wpAny_pyIter_zip g1 ?_
        have hap := PySem.W.ktu_apart n a b (by rw [← hn]; exact p1.lt) (by rw [← hn]; exact p2.lt)
        rw [hn] at *
        exact ⟨n + 4, [n + 4, n + 2, n + 3, n, n + 1], _, _, H1, rfl, I1.kept (t' := s1.toks) k, turn_zip hap, ⟨g1, g2, ⟨_, _, g3⟩, g4, g5⟩, fp, q⟩
      · obtain ⟨u, _, p1, _⟩ := I1.tuple sx
        obtain ⟨v, _, p2, _⟩ := I1.tuple sy
        obtain ⟨o1, e1, _⟩ := id p1
        obtain ⟨o2, e2', _⟩ := id p2
        refine RZ.call_zipT (show s1.heap.IsTuple a u.toArray from p1) (show s1.heap.IsTuple b v.toArray from p2) fun h' g1 g2 g3 g4 g5 sz k => wpAny_pyIter_zip g1 ?_
        have hap := PySem.W.ktu_apart n a b (by rw [← hn]; exact Heap.lt_size e1) (by rw [← hn]; exact Heap.lt_size e2')
        rw [hn] at *
        exact ⟨n + 4, [n + 4, n + 2, n + 3, n, n + 1], _, _, H1, rfl, I1.kept (t' := s1.toks) k, RZ.turn_zipT hap, ⟨g1, g2, ⟨_, _, g3⟩, g4, g5⟩, fp, q⟩
      · obtain ⟨u, _, p1, _⟩ := I1.tuple sx
        obtain ⟨v, _, p2, _⟩ := I1.list sy
        obtain ⟨o1, e1, _⟩ := id p1
        refine zm_call (show s1.heap.IsTuple a u.toArray from p1) p2.isList fun h' ⟨g1, g2, g3, g4, g5⟩ k => wpAny_pyIter_zip g1 ?_
        have hap := PySem.W.ktu_apart n a b (by rw [← hn]; exact Heap.lt_size e1) (by rw [← hn]; exact p2.lt)
        rw [hn] at *
        exact ⟨n + 4, [n + 4, n + 2, n + 3, n, n + 1], _, _, H1, rfl, I1.kept (t' := s1.toks) k, zm_turn hap, ⟨g1, g2, ⟨_, _, g3⟩, g4, g5⟩, fp, q⟩
end Cw
end

section
namespace Cw
open PySem PySem.Spec PyProof.Rows
abbrev znA (h : Heap) (l1 : Addr) : Heap := h.push { cls := .type "list_iterator", data := .fields #[.ref l1, .int 0 0] }
abbrev znB (h : Heap) (l1 l2 : Addr) : Heap := (znA h l1).push { cls := .type "tuple_iterator", data := .fields #[.ref l2, .int 0 0] }
abbrev znC (h : Heap) (l1 l2 : Addr) : Heap := (znB h l1 l2).push { cls := .type "tuple", data := .seq #[.ref h.objs.size, .ref (znA h l1).objs.size] }
abbrev znD (h : Heap) (l1 l2 : Addr) : Heap := (znC h l1 l2).push { cls := .type "tuple", data := .seq #[.none, .none] }
abbrev znE (h : Heap) (l1 l2 : Addr) : Heap := (znD h l1 l2).push { cls := .type "zip", data := .fields #[.none, .bool false, .bool false, .ref (znB h l1 l2).objs.size, .ref (znC h l1 l2).objs.size] }
theorem zn_new (l1 l2 : Addr) (xs ys : Array Value) :
    Meets (Builtin.«zip.__new__» ⟨[.type "zip", .ref l1, .ref l2], []⟩) (fun _ R s => s.heap.IsList l1 xs ∧ s.heap.IsTuple l2 ys ∧ R (.ok (.ret (.ref (znD s.heap l1 l2).objs.size))) { s with heap := znE s.heap l1 l2 }) :=
  .of_wp fun prog w A R s h => by
    obtain ⟨hp, g, d, tk, os⟩ := s
    obtain ⟨t1, t2, h⟩ := h
    have sz := sub_zip
    have u1 : Heap.IsList (Shared.heap ⟨hp, g, d, tk, os⟩) l1 xs := t1
    have u2 : Heap.IsTuple (Shared.heap ⟨hp.push { cls := .type "list_iterator", data := .fields #[.ref l1, .int 0 0] }, g, d, tk, os⟩) l2 ys := Heap.IsTuple.push t2 _
    wp_walk using wpAny_pyIter_list u1, wpAny_pyIter_tuple u2
    exact ⟨_, rfl, h⟩
theorem zn_call {prog : Program} {w : World} {A : Around} {E : Value → Shared → Prop} {s : Shared} {l1 l2 : Addr} {xs ys : Array Value} {Q : Value → Shared → Prop} (t1 : s.heap.IsList l1 xs) (t2 : s.heap.IsTuple l2 ys)
    (h : ∀ h', IsZip h' (s.heap.objs.size + 4) (s.heap.objs.size + 2) (s.heap.objs.size + 3) .none ∧ IsPair h' (s.heap.objs.size + 2) (.ref s.heap.objs.size) (.ref (s.heap.objs.size + 1)) ∧ IsPair h' (s.heap.objs.size + 3) .none .none ∧
      h'.IsListIter s.heap.objs.size l1 0 ∧ h'.IsTupleIter (s.heap.objs.size + 1) l2 0 → (∀ c o, s.heap.get? c = some o → h'.get? c = some o) → Q (.ref (s.heap.objs.size + 4)) { s with heap := h' }) :
    wpAny (model prog w) A (call (.type "zip") [.ref l1, .ref l2]) Q E s := by
  refine callType_new F.called_zip (by decide) (F.typeCall_zip_2 _ _) (F.newCall_zip_2 _ _) (fun o => F.args_object_init_3 o _ _) F.entry_zip_new (zn_new l1 l2 xs ys) ⟨t1, t2, ?_⟩
  have nA : (znA s.heap l1).objs.size = s.heap.objs.size + 1 := Heap.size_push ..
  have nB : (znB s.heap l1 l2).objs.size = s.heap.objs.size + 2 := by rw [Heap.size_push, nA]
  have nC : (znC s.heap l1 l2).objs.size = s.heap.objs.size + 3 := by rw [Heap.size_push, nB]
  have nD : (znD s.heap l1 l2).objs.size = s.heap.objs.size + 4 := by rw [Heap.size_push, nC]
  have gE : (znE s.heap l1 l2).get? (s.heap.objs.size + 4) = some { cls := .type "zip", data := .fields #[.none, .bool false, .bool false, .ref (s.heap.objs.size + 2), .ref (s.heap.objs.size + 3)] } := by
    have g : (znE s.heap l1 l2).get? (znD s.heap l1 l2).objs.size = some { cls := .type "zip", data := .fields #[.none, .bool false, .bool false, .ref (znB s.heap l1 l2).objs.size, .ref (znC s.heap l1 l2).objs.size] } := Heap.get?_push_size _ rfl
    rw [nD, nB, nC] at g
    exact g
  have gD : (znE s.heap l1 l2).get? (s.heap.objs.size + 3) = some { cls := .type "tuple", data := .seq #[.none, .none] } := by
    rw [← nC]; exact Heap.get?_push_of_some _ (Heap.get?_push_size _ rfl)
  have gC : (znE s.heap l1 l2).get? (s.heap.objs.size + 2) = some { cls := .type "tuple", data := .seq #[.ref s.heap.objs.size, .ref (s.heap.objs.size + 1)] } := by
    have g : (znC s.heap l1 l2).get? (znB s.heap l1 l2).objs.size = some { cls := .type "tuple", data := .seq #[.ref s.heap.objs.size, .ref (znA s.heap l1).objs.size] } := Heap.get?_push_size _ rfl
    rw [nB, nA] at g
    exact Heap.get?_push_of_some _ (Heap.get?_push_of_some _ g)
  have gB : (znE s.heap l1 l2).get? (s.heap.objs.size + 1) = some { cls := .type "tuple_iterator", data := .fields #[.ref l2, .int 0 0] } := by
    rw [← nA]; exact Heap.get?_push_of_some _ (Heap.get?_push_of_some _ (Heap.get?_push_of_some _ (Heap.get?_push_size _ rfl)))
  have gA : (znE s.heap l1 l2).get? s.heap.objs.size = some { cls := .type "list_iterator", data := .fields #[.ref l1, .int 0 0] } :=
    Heap.get?_push_of_some _ (Heap.get?_push_of_some _ (Heap.get?_push_of_some _ (Heap.get?_push_of_some _ (Heap.get?_push_size _ rfl))))
  show _ ∧ _
  rw [nD]
  exact ⟨⟨_, gE, rfl⟩, h _ ⟨gE, gC, gD, ⟨_, gA, rfl, rfl⟩, ⟨_, gB, rfl, rfl⟩⟩ fun c o x => Heap.get?_push_of_some _ (Heap.get?_push_of_some _ (Heap.get?_push_of_some _ (Heap.get?_push_of_some _ (Heap.get?_push_of_some _ x))))⟩
end Cw
namespace Cw
open PySem PySem.Spec PyProof.Rows L2
/-- a tuple and a list, walked side by side -/
def ItzN (K : PySem.W.Frag) (a b : Addr) : It :=
  ⟨fun i H => ∃ (xs ys : List V) (x y : V), SqL K H a xs ∧ SqT K H b ys ∧ xs[i]? = some x ∧ ys[i]? = some y,
    fun i H v H' => ∃ T x y, v = .ref T ∧ H T = none ∧ H' = upd H T (.tup [x, y]) ∧ (∀ xs, SqL K H a xs → xs[i]? = some x) ∧ ∀ ys, SqT K H b ys → ys[i]? = some y,
    fun i H => ∃ xs ys : List V, SqL K H a xs ∧ SqT K H b ys ∧ (xs.length ≤ i ∨ ys.length ≤ i)⟩
def znT (a b z TI TO i1 i2 : Addr) (i : Nat) (h : Heap) : Prop := IsZip h z TI TO .none ∧ IsPair h TI (.ref i1) (.ref i2) ∧ (∃ x y, IsPair h TO x y) ∧ h.IsListIter i1 a i ∧ h.IsTupleIter i2 b i
theorem zn_turn {P : Program} {w : World} {K : PySem.W.Frag} {elts : List Expr} {kk : Nat} {tpos : Pos} {a b z TI TO i1 i2 : Addr} (D : ZipApart z TI TO i1 i2 a b) :
    Turn P w K (.Tuple elts kk tpos) (ItzN K a b) [z, TI, TO, i1, i2] z (znT a b z TI TO i1 i2) where
  mem := by simp
  obj := fun i h st c hc => by
    obtain ⟨g1, g2, ⟨x, y, g3⟩, ⟨o1, g4, _, d4⟩, ⟨o2, g5, _, d5⟩⟩ := st
    rcases mem5 hc with rfl | rfl | rfl | rfl | rfl
    · exact ⟨_, g1, fun v q => by cases q⟩
    · exact ⟨_, g2, fun v q => by cases q⟩
    · exact ⟨_, g3, fun v q => by cases q⟩
    · exact ⟨o1, g4, fun v q => by rw [d4] at q; cases q⟩
    · exact ⟨o2, g5, fun v q => by rw [d5] at q; cases q⟩
  keep := fun i h h' st k => by
    obtain ⟨g1, g2, ⟨x, y, g3⟩, g4, g5⟩ := st
    exact ⟨k z (by simp) _ g1, k TI (by simp) _ g2, ⟨x, y, k TO (by simp) _ g3⟩, g4.at fun o q => k i1 (by simp) o q, g5.at fun o q => k i2 (by simp) o q⟩
  item := by
    intro X hP hw hK hc i pins s σ H E I hf st hg
    subst hP hw hK
    obtain ⟨g1, g2, ⟨x0, y0, g3⟩, g4, g5⟩ := st
    obtain ⟨xs, ys, x, y, sx, sy, ex, ey⟩ := hg
    obtain ⟨us, rv, pt, _⟩ := I.list sx
    obtain ⟨ws, rw', pl, _⟩ := I.tuple sy
    obtain ⟨u, hu, ru⟩ := rv.get ex
    obtain ⟨v, hv, rv'⟩ := rw'.get ey
    have zl : z < s.heap.objs.size := Heap.lt_size g1
    refine zm_next D g1 g2 g3 (P1 := fun h => h.IsListIter i1 a i ∧ h.IsList a us.toArray) (P2 := fun h => h.IsTupleIter i2 b i ∧ h.IsTuple b ws.toArray) ⟨g4, pt.isList⟩ ⟨g5, pl⟩ (nx_L (x := u) (by simpa using hu)) (nx_T (x := v) (by simpa using hv)) last_L last_T last_L1 last_T1 fun h' z' tO' w4 w5 tN sz k => ?_
    refine ⟨_, rfl, wpAny_letOwnedTupleGo_zip (s := { s with heap := h' }) z' fun h2 z2 sb => ?_⟩
    have tN2 : h2.get? s.heap.objs.size = some { cls := .type "tuple", data := .seq #[u, v] } := (sb.2 _ (Nat.ne_of_gt zl)).trans tN
    have new : ObjOk X.prog X.w (upd H s.heap.objs.size (.tup [x, y])) h2 s.heap.objs.size (.tup [x, y]) := ⟨by show 2 ≤ sizeLine; decide, [u, v], .cons ru (.cons rv' .nil), ⟨_, tN2, rfl, _, rfl⟩⟩
    have old : ∀ c o, c ∉ [z, TI, TO, i1, i2] → s.heap.get? c = some o → h2.get? c = some o := fun c o hb q =>
      (sb.2 c fun e => hb (by simp [e])).trans (k c o (fun e => hb (by simp [e])) (fun e => hb (by simp [e])) (fun e => hb (by simp [e])) (fun e => hb (by simp [e])) q)
    have I1 : Inv X pins σ (upd H s.heap.objs.size (.tup [x, y])) { s with heap := h2 } := I.turnedNew (t' := s.toks) (ch := [z, TI, TO, i1, i2]) old hf (Nat.le_refl _) new
    refine ⟨.ref s.heap.objs.size, _, I1, rfl, ⟨_, x, y, rfl, I.hok.fresh (Nat.le_refl _), rfl, fun l hl => by rw [I.list_inj hl sx]; exact ex, fun l hl => by rw [I.tuple_inj hl sy]; exact ey⟩, ⟨z2, ?_, ⟨u, v, ?_⟩, ?_, ?_⟩, fun c hcm => ?_⟩
    · exact (sb.2 _ D.TIz).trans (k _ _ D.TIz D.TITO D.TIi1 D.TIi2 g2)
    · exact (sb.2 _ D.TOz).trans tO'
    · exact w4.at fun o q => (sb.2 _ D.i1z).trans q
    · exact w5.at fun o q => (sb.2 _ D.i2z).trans q
    · have lt : c < s.heap.objs.size := by
        rcases mem5 hcm with rfl | rfl | rfl | rfl | rfl
        · exact zl
        · exact Heap.lt_size g2
        · exact Heap.lt_size g3
        · obtain ⟨_, e, _⟩ := g4; exact Heap.lt_size e
        · obtain ⟨_, e, _⟩ := g5; exact Heap.lt_size e
      rw [upd_ne (Nat.ne_of_lt lt)]
      exact (hf c hcm).1
  done := by
    intro X hP hw hK hc i pins s σ H E I hf st hg
    subst hP hw hK
    obtain ⟨g1, g2, ⟨x0, y0, g3⟩, g4, g5⟩ := st
    obtain ⟨xs, ys, sx, sy, hend⟩ := hg
    obtain ⟨us, rv, pt, _⟩ := I.list sx
    obtain ⟨ws, rw', pl, _⟩ := I.tuple sy
    have n1 := rv.length
    have n2 := rw'.length
    have fin : ∀ h', (∀ c o, c ≠ z → c ≠ TO → c ≠ i1 → c ≠ i2 → s.heap.get? c = some o → h'.get? c = some o) → Inv X pins σ H { s with heap := h' } := fun h' k =>
      I.turnedL (t' := s.toks) (ch := [z, TI, TO, i1, i2]) (fun c o hb q => k c o (fun e => hb (by simp [e])) (fun e => hb (by simp [e])) (fun e => hb (by simp [e])) (fun e => hb (by simp [e])) q) hf
    cases hx : us.toArray[i]? with
    | none => exact zm_stop (I.ok.hd hc) D g1 g2 g3 (P1 := fun h => h.IsListIter i1 a i ∧ h.IsList a us.toArray) (P2 := fun h => h.IsTupleIter i2 b i ∧ h.IsTuple b ws.toArray) (P1' := fun h => h.IsListIter i1 a (i + 1)) (x := .none) ⟨g4, pt.isList⟩ ⟨g5, pl⟩ last_L last_T (.inl (en_L hx)) fun h' k => ⟨rfl, fin h' k⟩
    | some u =>
      have hy : ws.toArray[i]? = none := by
        rcases hend with q | q
        · have : us.toArray[i]? = none := by simp; omega
          rw [this] at hx; cases hx
        · simp; omega
      exact zm_stop (I.ok.hd hc) D g1 g2 g3 (P1 := fun h => h.IsListIter i1 a i ∧ h.IsList a us.toArray) (P2 := fun h => h.IsTupleIter i2 b i ∧ h.IsTuple b ws.toArray) (P1' := fun h => h.IsListIter i1 a (i + 1)) (x := u) ⟨g4, pt.isList⟩ ⟨g5, pl⟩ last_L last_T (.inr ⟨nx_L hx, en_T hy⟩) fun h' k => ⟨rfl, fin h' k⟩
  self := fun A i s Q E st h => wpAny_pyIter_zip st.1 h
end Cw
namespace Cw
open PySem PySem.Spec PyProof.Rows L2
/-- zip of two lists, two tuples, a tuple and a list, a list and a tuple -/
def iZip4 (K : PySem.W.Frag) (ta : TA) : TI := fun σ H R => ta σ H fun vs H1 => ∃ a b xs ys, vs = [.ref a, .ref b] ∧
  ((SqL K H1 a xs ∧ SqL K H1 b ys ∧ R (Itz K a b) H1) ∨ (SqT K H1 a xs ∧ SqT K H1 b ys ∧ R (RZ.ItzT K a b) H1) ∨ (SqT K H1 a xs ∧ SqL K H1 b ys ∧ R (ItzM K a b) H1) ∨ (SqL K H1 a xs ∧ SqT K H1 b ys ∧ R (ItzN K a b) H1))
theorem pi_zip4 {X : Cx} {e e2 : Expr} {ta : TA} {p pos tpos : Pos} {elts : List Expr} {kk : Nat} (hg : Gl X "zip") (hm : X.mg "zip" = none) (ha : PA X [e, e2] ta)
    (hs : starEach [e, e2] X.env = (false, eval e X.env) :: starEach [e2] X.env := by rfl) (hpl : (backTo pos (starEach [e2] X.env)).any (·.1) = false := by rfl) :
    PI X (.Tuple elts kk tpos) (.Call (.Name "zip" p) [e, e2] [] pos) (iZip4 X.K ta) := by
  refine ⟨fun pins s σ H R I h => Call_ (ld_blt I hg hm PyProof.Rows.boot_zip (PyProof.Rows.callWith_type1 (thn (ha.run pos pins s σ H _ I h) ?_) hs hpl))⟩
  rintro us s1 ⟨vs, H1, I1, r1, a, b, xs, ys, rfl, q1⟩
  cases r1 with
  | cons r r2 => cases r2 with
    | cons r' r3 =>
      cases r3
      cases r
      cases r'
      generalize hn : s1.heap.objs.size = n
      have fp : ∀ c, c ∈ [n + 4, n + 2, n + 3, n, n + 1] → FpOk X pins H1 c := fun c hcm => by
        have hle : s1.heap.objs.size ≤ c := by rcases mem5 hcm with rfl | rfl | rfl | rfl | rfl <;> omega
        exact I1.fpOk hle (I1.hok.fresh hle)
      rcases q1 with ⟨sx, sy, q⟩ | ⟨sx, sy, q⟩ | ⟨sx, sy, q⟩ | ⟨sx, sy, q⟩
      · obtain ⟨u, _, p1, _⟩ := I1.list sx
        obtain ⟨v, _, p2, _⟩ := I1.list sy
        refine call_zip_2 p1.isList p2.isList fun h' g1 g2 g3 g4 g5 sz k => wpAny_pyIter_zip g1 ?_
        have hap := PySem.W.ktu_apart n a b (by rw [← hn]; exact p1.lt) (by rw [← hn]; exact p2.lt)
        rw [hn] at *
        exact ⟨n + 4, [n + 4, n + 2, n + 3, n, n + 1], _, _, H1, rfl, I1.kept (t' := s1.toks) k, turn_zip hap, ⟨g1, g2, ⟨_, _, g3⟩, g4, g5⟩, fp, q⟩
      · obtain ⟨u, _, p1, _⟩ := I1.tuple sx
        obtain ⟨v, _, p2, _⟩ := I1.tuple sy
        obtain ⟨o1, e1, _⟩ := id p1
        obtain ⟨o2, e2', _⟩ := id p2
        refine RZ.call_zipT (show s1.heap.IsTuple a u.toArray from p1) (show s1.heap.IsTuple b v.toArray from p2) fun h' g1 g2 g3 g4 g5 sz k => wpAny_pyIter_zip g1 ?_
        have hap := PySem.W.ktu_apart n a b (by rw [← hn]; exact Heap.lt_size e1) (by rw [← hn]; exact Heap.lt_size e2')
        rw [hn] at *
        exact ⟨n + 4, [n + 4, n + 2, n + 3, n, n + 1], _, _, H1, rfl, I1.kept (t' := s1.toks) k, RZ.turn_zipT hap, ⟨g1, g2, ⟨_, _, g3⟩, g4, g5⟩, fp, q⟩
      · obtain ⟨u, _, p1, _⟩ := I1.tuple sx
        obtain ⟨v, _, p2, _⟩ := I1.list sy
        obtain ⟨o1, e1, _⟩ := id p1
        refine zm_call (show s1.heap.IsTuple a u.toArray from p1) p2.isList fun h' ⟨g1, g2, g3, g4, g5⟩ k => wpAny_pyIter_zip g1 ?_
        have hap := PySem.W.ktu_apart n a b (by rw [← hn]; exact Heap.lt_size e1) (by rw [← hn]; exact p2.lt)
        rw [hn] at *
        exact ⟨n + 4, [n + 4, n + 2, n + 3, n, n + 1], _, _, H1, rfl, I1.kept (t' := s1.toks) k, zm_turn hap, ⟨g1, g2, ⟨_, _, g3⟩, g4, g5⟩, fp, q⟩
      · obtain ⟨u, _, p1, _⟩ := I1.list sx
        obtain ⟨v, _, p2, _⟩ := I1.tuple sy
        obtain ⟨o1, e1, _⟩ := id p2
        refine zn_call p1.isList (show s1.heap.IsTuple b v.toArray from p2) fun h' ⟨g1, g2, g3, g4, g5⟩ k => wpAny_pyIter_zip g1 ?_
        have hap := PySem.W.ktu_apart n a b (by rw [← hn]; exact p1.lt) (by rw [← hn]; exact Heap.lt_size e1)
        rw [hn] at *
        exact ⟨n + 4, [n + 4, n + 2, n + 3, n, n + 1], _, _, H1, rfl, I1.kept (t' := s1.toks) k, zn_turn hap, ⟨g1, g2, ⟨_, _, g3⟩, g4, g5⟩, fp, q⟩
end Cw
end

section
namespace Cw
open PySem PySem.Spec PyProof.Rows
theorem em_new (l : Addr) (items : Array Value) :
    Meets (Builtin.«enumerate.__new__» ⟨[.type "enumerate", .ref l], []⟩) (fun _ R s => s.heap.IsTuple l items ∧
      R (.ok (.ret (.ref (s.heap.push { cls := .type "tuple_iterator", data := .fields #[.ref l, .int 0 0] }).objs.size)))
        { s with heap := (s.heap.push { cls := .type "tuple_iterator", data := .fields #[.ref l, .int 0 0] }).push { cls := .type "enumerate", data := .fields #[.none, .bool false, .ref s.heap.objs.size, rawInt 0, .none, .none] } }) :=
  .of_wp fun prog w A R s h => by
    obtain ⟨hp, g, d, tk, os⟩ := s
    obtain ⟨hl, h⟩ := h
    have sub := sub_enumerate
    have u : Heap.IsTuple (Shared.heap ⟨hp, g, d, tk, os⟩) l items := hl
    obtain ⟨⟨oc, od, odt, osl⟩, ho, hc, n, hd⟩ := id hl
    simp only at hc hd
    subst hc hd
    wp_walk using PySem.AutoSeq1.wpAny_loadPart' ho
    refine wpAny_stack_any fun st => wpAny_pure ?_
    split
    · rename_i c _ _ _ _ _
      cases (c == Value.type "enumerate")
      · wp_walk using PySem.AutoSeq1.wpAny_loadPart' ho, wpAny_pyIter_tuple u
        exact ⟨_, rfl, h⟩
      · wp_walk using PySem.AutoSeq1.wpAny_loadPart' ho, wpAny_pyIter_tuple u
        exact ⟨_, rfl, h⟩
    · wp_walk using PySem.AutoSeq1.wpAny_loadPart' ho, wpAny_pyIter_tuple u
      exact ⟨_, rfl, h⟩
section
variable {prog : Program} {w : World} {A : Around} {E : Value → Shared → Prop} {s : Shared}
theorem em_call {l : Addr} {items : Array Value} {Q : Value → Shared → Prop} (hl : s.heap.IsTuple l items)
    (h : ∀ h', IsEnum h' (s.heap.objs.size + 1) s.heap.objs.size 0 .none → h'.IsTupleIter s.heap.objs.size l 0 → (∀ b o, s.heap.get? b = some o → h'.get? b = some o) → Q (.ref (s.heap.objs.size + 1)) { s with heap := h' }) :
    wpAny (model prog w) A (call (.type "enumerate") [.ref l]) Q E s := by
  refine callType_new F.called_enumerate (by decide) (F.typeCall_enumerate_1 _) (F.newCall_enumerate_1 _) (fun o => F.args_object_init_2 o _) F.entry_enumerate_new (em_new l items) ⟨hl, ?_⟩
  have z : (s.heap.push { cls := .type "tuple_iterator", data := .fields #[.ref l, .int 0 0] }).objs.size = s.heap.objs.size + 1 := Heap.size_push ..
  show _ ∧ _
  rw [z]
  refine ⟨⟨_, by rw [← z]; exact Heap.get?_push_size _ rfl, rfl⟩, h _ ?_ ⟨_, Heap.get?_push_of_some _ (Heap.get?_push_size _ rfl), rfl, rfl⟩ fun b o e => Heap.get?_push_of_some _ (Heap.get?_push_of_some _ e)⟩
  show Heap.get? _ _ = _
  rw [← z]
  exact Heap.get?_push_size _ rfl
theorem em_item {e it : Addr} {i : Nat} {P P' : Heap → Prop} {x old : Value} {Q : Value → Shared → Prop} (he : IsEnum s.heap e it i old) (hp : P s.heap) (nx : NxI prog w it P P' x) (lst : Last P' it it) (hne : e ≠ it)
    (hQ : ∀ h', IsEnumOut h' e it ((i : Int) + 1) x s.heap.objs.size → P' h' → h'.get? s.heap.objs.size = some { cls := .type "tuple", data := .seq #[.int i s.toks, x] } → h'.objs.size = s.heap.objs.size + 1 →
      (∀ b o, b ≠ e → b ≠ it → s.heap.get? b = some o → h'.get? b = some o) → Q (.ref s.heap.objs.size) { s with heap := h', toks := s.toks + 1 }) :
    wpAny (model prog w) A (Builtin.«enumerate.__next__» ⟨[.ref e], []⟩) (fun fin s' => ∃ v, fin = .done (.ret v) ∧ Q v s') E s := by
  obtain ⟨hp0, g, d, tk, os⟩ := s
  show wpAny _ _ (field (.ref e) 2 >>= _) _ _ _
  refine wpAny_bind (wpAny_field he rfl (x := .ref it) rfl (wpAny_bind (nx hp fun ha pa sa => ?_)))
  replace sa : Heap.SameBut it hp0 ha := sa
  have ea : IsEnum ha e it i old := (sa.2 e hne).trans he
  show wpAny _ _ (field (.ref e) 3 >>= _) _ _ ⟨ha, g, d, tk, os⟩
  refine wpAny_bind (wpAny_field ea rfl (x := rawInt i) rfl ?_)
  show wpAny _ _ (field (.ref e) 4 >>= _) _ _ ⟨ha, g, d, tk, os⟩
  refine wpAny_bind (wpAny_field ea rfl (x := .none) rfl ?_)
  show wpAny _ _ (mkInt i >>= _) _ _ ⟨ha, g, d, tk, os⟩
  refine wpAny_bind (wpAny_mkInt ?_)
  show wpAny _ _ (setField (.ref e) 3 (rawInt ((i : Int) + 1)) >>= _) _ _ ⟨ha, g, d, tk + 1, os⟩
  refine wpAny_bind (wpAny_setField_rec ea (by simp) fun hb eb sb => ?_)
  replace sb : Heap.SameBut e ha hb := sb
  replace eb : IsEnum hb e it ((i : Int) + 1) old := eb
  show wpAny _ _ (setField (.ref e) 4 .none >>= _) _ _ ⟨hb, g, d, tk + 1, os⟩
  refine wpAny_bind (wpAny_setField_rec eb (by simp) fun hc ec sc => ?_)
  replace sc : Heap.SameBut e hb hc := sc
  replace ec : IsEnum hc e it ((i : Int) + 1) old := ec
  show wpAny _ _ (newTuple [.int i tk, x] >>= _) _ _ ⟨hc, g, d, tk + 1, os⟩
  refine wpAny_bind (wpAny_newTuple ?_)
  have pc : P' hc := lst (lst pa sb.extBut hne.symm hne.symm) sc.extBut hne.symm hne.symm
  have ed : IsEnum (hc.push { cls := .type "tuple", data := .seq #[.int i tk, x] }) e it ((i : Int) + 1) old := Heap.get?_push_of_some _ ec
  have pd : P' (hc.push { cls := .type "tuple", data := .seq #[.int i tk, x] }) := lst (b := e) pc (fun b o _ q => Heap.get?_push_of_some _ q) hne.symm hne.symm
  have size : hc.objs.size = hp0.objs.size := by rw [sc.1, sb.1, sa.1]
  have elt : e < hp0.objs.size := Heap.lt_size he
  have td : (hc.push { cls := .type "tuple", data := .seq #[.int i tk, x] }).get? hp0.objs.size = some { cls := .type "tuple", data := .seq #[.int i tk, x] } := by rw [← size]; exact Heap.get?_push_size _ rfl
  have zd : (hc.push { cls := .type "tuple", data := .seq #[.int i tk, x] }).objs.size = hp0.objs.size + 1 := by rw [Heap.size_push, size]
  have kd : ∀ b o, b ≠ e → b ≠ it → hp0.get? b = some o → (hc.push { cls := .type "tuple", data := .seq #[.int i tk, x] }).get? b = some o := fun b o h1 h2 q =>
    Heap.get?_push_of_some _ (sc.extBut b o h1 (sb.extBut b o h1 (sa.extBut b o h2 q)))
  show wpAny _ _ (Builtin.SmallTypes.ownedTupleIsFree (.ref e) >>= _) _ _ ⟨hc.push { cls := .type "tuple", data := .seq #[.int i tk, x] }, g, d, tk + 1, os⟩
  rw [size]
  generalize hc.push { cls := .type "tuple", data := .seq #[.int i tk, x] } = hd at ed pd td zd kd
  refine wpAny_bind ?_
  unfold Builtin.SmallTypes.ownedTupleIsFree
  refine wpAny_bind (wpAny_field ed rfl (x := .none) rfl (wpAny_pure ?_))
  simp only [if_true]
  refine wpAny_bind (wpAny_rule (wpAny_bind (wpAny_field ed rfl (x := old) rfl (wpAny_bind (wpAny_setField_rec ed (by simp) fun h5 e5 s5 => ?_)))))
  replace s5 : Heap.SameBut e hd h5 := s5
  replace e5 : IsEnum h5 e it ((i : Int) + 1) x := e5
  show wpAny _ _ (Builtin.SmallTypes.ownedTupleHandOut (.ref e) (.ref hp0.objs.size) >>= _) _ _ ⟨h5, g, d, tk + 1, os⟩
  refine wpAny_bind ?_
  unfold Builtin.SmallTypes.ownedTupleHandOut
  refine wpAny_bind (wpAny_setField_rec e5 (by simp) fun h6 e6 s6 => ?_)
  replace s6 : Heap.SameBut e h5 h6 := s6
  replace e6 : IsEnumOut h6 e it ((i : Int) + 1) x hp0.objs.size := e6
  refine wpAny_setField_rec e6 (by simp) fun h7 e7 s7 => ?_
  replace s7 : Heap.SameBut e h6 h7 := s7
  replace e7 : IsEnumOut h7 e it ((i : Int) + 1) x hp0.objs.size := e7
  refine wpAny_bind (wpAny_letGo (wpAny_pure ⟨_, rfl, hQ h7 e7 ?_ ?_ ?_ ?_⟩))
  · exact lst (lst (lst pd s5.extBut hne.symm hne.symm) s6.extBut hne.symm hne.symm) s7.extBut hne.symm hne.symm
  · exact s7.extBut _ _ (Nat.ne_of_gt elt) (s6.extBut _ _ (Nat.ne_of_gt elt) (s5.extBut _ _ (Nat.ne_of_gt elt) td))
  · rw [s7.1, s6.1, s5.1, zd]
  · exact fun b o h1 h2 q => s7.extBut b o h1 (s6.extBut b o h1 (s5.extBut b o h1 (kd b o h1 h2 q)))
theorem em_next {e it : Addr} {i : Nat} {P P' : Heap → Prop} {x old : Value} {Q : Option Value → Shared → Prop} (he : IsEnum s.heap e it i old) (hp : P s.heap) (nx : NxI prog w it P P' x) (lst : Last P' it it) (hne : e ≠ it)
    (hQ : ∀ h', IsEnumOut h' e it ((i : Int) + 1) x s.heap.objs.size → P' h' → h'.get? s.heap.objs.size = some { cls := .type "tuple", data := .seq #[.int i s.toks, x] } → h'.objs.size = s.heap.objs.size + 1 →
      (∀ b o, b ≠ e → b ≠ it → s.heap.get? b = some o → h'.get? b = some o) → Q (some (.ref s.heap.objs.size)) { s with heap := h', toks := s.toks + 1 }) : wpAny (model prog w) A (pyNext (.ref e)) Q E s := by
  have hT : s.TypeIs (.ref e) "enumerate" := ⟨_, he, rfl⟩
  unfold pyNext
  exact wpAny_bind (wpAny_attempt (wpAny_callSpecial?_slot (name := Str.ofString "__next__") hT F.slot_enumerate_next
    (wpAny_call_entry F.slot_enumerate_next hT F.entry_enumerate_next (em_item he hp nx lst hne fun h' a b c d k => wpAny_pure (hQ h' a b c d k)) (F.args_enumerate_next_1 _))))
theorem em_stop {e it : Addr} {i : Nat} {P : Heap → Prop} {old : Value} {Q : Option Value → Shared → Prop} (hh : A.handled = none) (he : IsEnum s.heap e it i old) (hp : P s.heap) (en : EnI prog w it P)
    (hQ : ∀ h', Heap.ExtBut it s.heap h' → Q none { s with heap := h' }) : wpAny (model prog w) A (pyNext (.ref e)) Q E s := by
  have hT : s.TypeIs (.ref e) "enumerate" := ⟨_, he, rfl⟩
  unfold pyNext
  refine wpAny_bind (wpAny_attempt (wpAny_callSpecial?_slot (name := Str.ofString "__next__") hT F.slot_enumerate_next
    (wpAny_call_entry F.slot_enumerate_next hT F.entry_enumerate_next ?_ (F.args_enumerate_next_1 _))))
  show wpAny _ _ (field (.ref e) 2 >>= _) _ _ _
  refine wpAny_bind (wpAny_field he rfl (x := .ref it) rfl ?_)
  refine wpAny_bind (en hh hp fun h' x he' hx' => ?_)
  obtain ⟨o, ho, hc⟩ := hx'
  refine wpAny_bind (wpAny_isInstance (T := "StopIteration") (b := true) ⟨o, ho, hc⟩ isSubtype_stop ?_)
  exact wpAny_pure (hQ _ he')
end
end Cw
namespace Cw
open PySem PySem.Spec PyProof.Rows L2
/-- the tuple at a, each item in a new pair -/
def ItnT (K : PySem.W.Frag) (a : Addr) : It :=
  ⟨fun i H => ∃ (xs : List V) (x : V), SqT K H a xs ∧ xs[i]? = some x, fun i H v H' => ∃ T x, v = .ref T ∧ H T = none ∧ H' = upd H T (.tup [.int (i : Nat), x]) ∧ ∀ xs, SqT K H a xs → xs[i]? = some x, fun i H => ∃ xs : List V, SqT K H a xs ∧ xs.length ≤ i⟩
theorem em_turn {P : Program} {w : World} {K : PySem.W.Frag} {elts : List Expr} {kk : Nat} {tpos : Pos} (a e it : Addr) :
    Turn P w K (.Tuple elts kk tpos) (ItnT K a) [e, it] e (fun i h => (∃ old, IsEnum h e it ((i : Nat) : Int) old) ∧ h.IsTupleIter it a i ∧ e ≠ it) where
  mem := by simp
  obj := fun i h st b hb => by
    obtain ⟨⟨old, he⟩, ⟨o, ho, hc, hd⟩, _⟩ := st
    have e' : b = e ∨ b = it := by simpa using hb
    rcases e' with rfl | rfl
    · exact ⟨_, he, fun v q => nomatch q⟩
    · exact ⟨o, ho, fun v q => by rw [hd] at q; cases q⟩
  keep := fun i h h' st k => by
    obtain ⟨⟨old, he⟩, hi, hne⟩ := st
    exact ⟨⟨old, k e (by simp) _ he⟩, hi.at fun o q => k it (by simp) o q, hne⟩
  item := by
    intro X hP hw hK hc i pins s σ H E I hf st hg
    subst hP hw hK
    obtain ⟨⟨old, he⟩, hit, hne⟩ := st
    obtain ⟨xs, x, hq, hx⟩ := hg
    obtain ⟨its, rv, p, hz⟩ := I.tuple hq
    obtain ⟨u, hu, ru⟩ := rv.get hx
    have el : e < s.heap.objs.size := Heap.lt_size he
    have il : it < s.heap.objs.size := by obtain ⟨_, q, _⟩ := hit; exact Heap.lt_size q
    refine em_next he (P := fun h => h.IsTupleIter it a i ∧ h.IsTuple a its.toArray) ⟨hit, p⟩ (nx_T (x := u) (by simpa using hu)) last_T1 hne fun h' ho hit' hT hsz hk => ?_
    refine ⟨_, rfl, wpAny_letOwnedTupleGo_enum (s := { s with heap := h', toks := s.toks + 1 }) ho fun h2 he' sb => ?_⟩
    have hT2 : h2.get? s.heap.objs.size = some { cls := .type "tuple", data := .seq #[.int i s.toks, u] } := (sb.2 _ (Nat.ne_of_gt el)).trans hT
    have new : ObjOk X.prog X.w (upd H s.heap.objs.size (.tup [.int (i : Nat), x])) h2 s.heap.objs.size (.tup [.int (i : Nat), x]) := ⟨by show 2 ≤ sizeLine; decide, [.int i s.toks, u], .cons ⟨_, rfl⟩ (.cons ru .nil), ⟨_, hT2, rfl, _, rfl⟩⟩
    have I1 : Inv X pins σ (upd H s.heap.objs.size (.tup [.int (i : Nat), x])) { s with heap := h2, toks := s.toks + 1 } :=
      I.turnedNew (ch := [e, it]) (fun b ob hb q => (sb.2 b (fun z => hb (by simp [z]))).trans (hk b ob (fun z => hb (by simp [z])) (fun z => hb (by simp [z])) q)) hf (Nat.le_refl _) new
    refine ⟨.ref s.heap.objs.size, _, I1, rfl, ⟨_, x, rfl, I.hok.fresh (Nat.le_refl _), rfl, fun ys hy => by rw [I.tuple_inj hy hq]; exact hx⟩, ⟨⟨u, ?_⟩, hit'.at fun o q => (sb.2 it (Ne.symm hne)).trans q, hne⟩, fun b hb => ?_⟩
    · have e1 : ((i + 1 : Nat) : Int) = (i : Int) + 1 := by omega
      rw [e1]; exact he'
    · have lt : b < s.heap.objs.size := by
        have e' : b = e ∨ b = it := by simpa using hb
        rcases e' with rfl | rfl
        · exact el
        · exact il
      rw [upd_ne (Nat.ne_of_lt lt)]
      exact (hf b hb).1
  done := by
    intro X hP hw hK hc i pins s σ H E I hf st hg
    subst hP hw hK
    obtain ⟨⟨old, he⟩, hit, hne⟩ := st
    obtain ⟨xs, hq, hx⟩ := hg
    obtain ⟨its, rv, p, hz⟩ := I.tuple hq
    obtain ⟨f0, f1, f2, f3, f4, f5⟩ := hf it (by simp)
    have hl := rv.length
    exact em_stop (I.ok.hd hc) he (P := fun h => h.IsTupleIter it a i ∧ h.IsTuple a its.toArray) ⟨hit, p⟩ (en_T (by simp; omega)) fun h' eb => ⟨rfl, I.turned (t' := s.toks) (fun b o hb q => eb b o hb q) f0 f1 f3 f4 f5⟩
  self := fun A i s Q E st h => by
    obtain ⟨⟨_, he⟩, _⟩ := st
    exact wpAny_pyIter_enum he h
/-- enumerate of a list or a tuple -/
def iEnum2 (K : PySem.W.Frag) (ta : TA) : TI := fun σ H R => ta σ H fun vs H1 => ∃ a xs, vs = [.ref a] ∧ ((SqL K H1 a xs ∧ R (Ite K a) H1) ∨ (SqT K H1 a xs ∧ R (ItnT K a) H1))
theorem pi_enum2 {X : Cx} {e : Expr} {ta : TA} {p pos tpos : Pos} {elts : List Expr} {kk : Nat} (hg : Gl X "enumerate") (hm : X.mg "enumerate" = none) (ha : PA X [e] ta) (hs : starEach [e] X.env = [(false, eval e X.env)] := by rfl) :
    PI X (.Tuple elts kk tpos) (.Call (.Name "enumerate" p) [e] [] pos) (iEnum2 X.K ta) := by
  refine ⟨fun pins s σ H R I h => ?_⟩
  refine Call_ (ld_blt I hg hm boot_enumerate (PyProof.Rows.callWith_type1 (thn (ha.run pos pins s σ H _ I h) fun us s1 ⟨vs, H1, I1, r1, q1⟩ => ?_) hs rfl))
  obtain ⟨a, xs, rfl, q1⟩ := q1
  obtain rfl := Vals.ref1 r1
  have fp : ∀ b, b ∈ [s1.heap.objs.size + 1, s1.heap.objs.size] → FpOk X pins H1 b := fun b hb => by
    have hle : s1.heap.objs.size ≤ b := by
      have e' : b = s1.heap.objs.size + 1 ∨ b = s1.heap.objs.size := by simpa using hb
      rcases e' with rfl | rfl
      · exact Nat.le_add_right _ _
      · exact Nat.le_refl _
    exact I1.fpOk hle (I1.hok.fresh hle)
  rcases q1 with ⟨hq, q⟩ | ⟨hq, q⟩
  · obtain ⟨its, rv, p', hz⟩ := I1.list hq
    refine call_enumerate_list p'.isList fun h' he hit hsz hk => wpAny_pyIter_enum he ?_
    exact ⟨s1.heap.objs.size + 1, [s1.heap.objs.size + 1, s1.heap.objs.size], _, _, H1, rfl, I1.kept (t' := s1.toks) hk, turn_enum a (s1.heap.objs.size + 1) s1.heap.objs.size, ⟨⟨.none, he⟩, hit, Nat.succ_ne_self _⟩, fp, q⟩
  · obtain ⟨its, rv, p', hz⟩ := I1.tuple hq
    refine em_call (show s1.heap.IsTuple a its.toArray from p') fun h' he hit hk => wpAny_pyIter_enum he ?_
    exact ⟨s1.heap.objs.size + 1, [s1.heap.objs.size + 1, s1.heap.objs.size], _, _, H1, rfl, I1.kept (t' := s1.toks) hk, em_turn a (s1.heap.objs.size + 1) s1.heap.objs.size, ⟨⟨.none, he⟩, hit, Nat.succ_ne_self _⟩, fp, q⟩
end Cw
end

section
namespace Cw
open PySem PySem.Spec PyProof.Rows L2

def ItIs (K : Fr) (S : Addr → Prop) (H1 : Hp) (J : It) (xs : List D) : Prop :=
  ∀ (i : Nat) (H : Hp) (S' : Addr → Prop), (∀ a, S' a → S a ∨ H1 a = none) → Keep S H1 H → (∀ a, S' a → H a ≠ none) →
    (i < xs.length → J.go i H ∧ ∀ x H', J.yld i H x H' → Keep (fun _ => False) H H' ∧ ∃ d, xs[i]? = some d ∧ Rep K H' S' x d) ∧ (xs.length ≤ i → J.stop i H)
section
variable {K : Fr} {S M S' : Addr → Prop} {H1 H : Hp}
theorem reps_later {vs : List V} {ds : List D} (r : Reps K H1 S vs ds) (hS : ∀ a, S' a → S a ∨ H1 a = none) (kp : Keep M H1 H) (hM : ∀ a, M a → S a) : Reps K H S' vs ds :=
  ((r.mono (S' := fun a => S a ∨ S' a) fun a h => h.elim .inl (hS a)).keep kp fun a h => .inl (hM a h)).mono fun a h => .inl (.inr h)
theorem rep_later {v : V} {d : D} (r : Rep K H1 S v d) (hS : ∀ a, S' a → S a ∨ H1 a = none) (kp : Keep M H1 H) (hM : ∀ a, M a → S a) : Rep K H S' v d :=
  ((r.mono (S' := fun a => S a ∨ S' a) fun a h => h.elim .inl (hS a)).keep kp fun a h => .inl (hM a h)).mono fun a h => .inl (.inr h)
theorem itis_list {a : Addr} {vs : List V} {ds : List D} (h : LstAt K H1 S a vs) (r : Reps K H1 S vs ds) : ItIs K S H1 (Itl K a) ds := fun i H S' hS kp al => by
  have hM : ∀ a, S a → S a := fun _ h => h
  have h' := h.keep kp hM
  have r' := reps_later r hS kp hM
  refine ⟨fun hi => ⟨⟨vs, vs[i]'(by rw [r.length]; exact hi), h'.sq, List.getElem?_eq_getElem _⟩, ?_⟩, fun hi => ⟨vs, h'.sq, by rw [r.length]; exact hi⟩⟩
  rintro x H' ⟨rfl, y⟩
  obtain ⟨d, hd, hr⟩ := r'.getV (y vs h'.sq)
  exact ⟨Keep.refl, d, hd, hr⟩
theorem itis_tup {a : Addr} {vs : List V} {ds : List D} (h : TupAt K H1 S a vs) (r : Reps K H1 S vs ds) : ItIs K S H1 (Itt K a) ds := fun i H S' hS kp al => by
  have hM : ∀ a, S a → S a := fun _ h => h
  have h' := h.keep kp hM
  have r' := reps_later r hS kp hM
  refine ⟨fun hi => ⟨⟨vs, vs[i]'(by rw [r.length]; exact hi), h'.sq, List.getElem?_eq_getElem _⟩, ?_⟩, fun hi => ⟨vs, h'.sq, by rw [r.length]; exact hi⟩⟩
  rintro x H' ⟨rfl, y⟩
  obtain ⟨d, hd, hr⟩ := r'.getV (y vs h'.sq)
  exact ⟨Keep.refl, d, hd, hr⟩
theorem rangeD_len (i j : Int) : (rangeD i j).length = (j - i).toNat := by simp [rangeD]
theorem rangeD_get {i j : Int} {n : Nat} (h : n < (j - i).toNat) : (rangeD i j)[n]? = some (.int (i + (n : Nat))) := by simp [rangeD, h]
theorem itis_rng {lo hi : Int} : ItIs K S H1 (Itr lo (hi - lo).toNat) (rangeD lo hi) := fun i H S' hS kp al => by
  have hM : ∀ a, S a → S a := fun _ h => h
  rw [rangeD_len]
  refine ⟨fun hi => ⟨hi, ?_⟩, fun hi => hi⟩
  rintro x H' ⟨rfl, rfl⟩
  exact ⟨Keep.refl, _, rangeD_get hi, .int _⟩
theorem itis_rngR {lo hi : Int} : ItIs K S H1 (Itc (lo + (((hi - lo).toNat : Nat) : Int) - 1) (-1) (hi - lo).toNat) (rangeD lo hi).reverse := fun i H S' hS kp al => by
  have hM : ∀ a, S a → S a := fun _ h => h
  rw [List.length_reverse, rangeD_len]
  refine ⟨fun hi => ⟨hi, ?_⟩, fun hi => hi⟩
  rintro x H' ⟨rfl, rfl⟩
  refine ⟨Keep.refl, _, ?_, .int _⟩
  rw [List.getElem?_reverse (by rw [rangeD_len]; exact hi), rangeD_len, rangeD_get (by omega)]
  congr 2
  omega
theorem itis_revL {a : Addr} {vs : List V} {ds : List D} (h : LstAt K H1 S a vs) (r : Reps K H1 S vs ds) : ItIs K S H1 (Itv K a vs.length) ds.reverse := fun i H S' hS kp al => by
  have hM : ∀ a, S a → S a := fun _ h => h
  have h' := h.keep kp hM
  have r' := reps_later r hS kp hM
  rw [List.length_reverse, ← r.length]
  refine ⟨fun hi => ⟨⟨hi, vs, vs[vs.length - 1 - i]'(by omega), h'.sq, List.getElem?_eq_getElem _⟩, ?_⟩, fun hi => hi⟩
  rintro x H' ⟨rfl, y⟩
  obtain ⟨d, hd, hr⟩ := r'.getV (y vs h'.sq)
  refine ⟨Keep.refl, d, ?_, hr⟩
  rw [List.getElem?_reverse (by rw [← r.length]; exact hi), ← r.length]
  exact hd
theorem itis_revT {a : Addr} {vs : List V} {ds : List D} (h : TupAt K H1 S a vs) (r : Reps K H1 S vs ds) : ItIs K S H1 (RT.ItvT K a vs.length) ds.reverse := fun i H S' hS kp al => by
  have hM : ∀ a, S a → S a := fun _ h => h
  have h' := h.keep kp hM
  have r' := reps_later r hS kp hM
  rw [List.length_reverse, ← r.length]
  refine ⟨fun hi => ⟨⟨hi, vs, vs[vs.length - 1 - i]'(by omega), h'.sq, List.getElem?_eq_getElem _⟩, ?_⟩, fun hi => hi⟩
  rintro x H' ⟨rfl, y⟩
  obtain ⟨d, hd, hr⟩ := r'.getV (y vs h'.sq)
  refine ⟨Keep.refl, d, ?_, hr⟩
  rw [List.getElem?_reverse (by rw [← r.length]; exact hi), ← r.length]
  exact hd
/-- a new pair -/
theorem rep_pair {T : Addr} {x y : V} {d e : D} (hT : H T = none) (al : ∀ a, S' a → H a ≠ none) (rx : Rep K H S' x d) (ry : Rep K H S' y e) : Rep K (upd H T (.tup [x, y])) S' (.ref T) (.tuple [d, e]) :=
  (res_newT (k := 0) al hT (.cons rx (.cons ry .nil))).1
theorem itis_enum {a : Addr} {vs : List V} {ds : List D} (h : LstAt K H1 S a vs) (r : Reps K H1 S vs ds) : ItIs K S H1 (Ite K a) ((List.range ds.length).map fun i => .tuple [.int (i : Nat), ds.getD i .none]) := fun i H S' hS kp al => by
  have hM : ∀ a, S a → S a := fun _ h => h
  have h' := h.keep kp hM
  have r' := reps_later r hS kp hM
  rw [List.length_map, List.length_range, ← r.length]
  refine ⟨fun hi => ⟨⟨vs, vs[i]'hi, h'.sq, List.getElem?_eq_getElem _⟩, ?_⟩, fun hi => ⟨vs, h'.sq, hi⟩⟩
  rintro x H' ⟨T, y, rfl, hT, rfl, hy⟩
  obtain ⟨d, hd, hr⟩ := r'.getV (hy vs h'.sq)
  refine ⟨Keep.new hT, _, ?_, rep_pair hT al (.int _) hr⟩
  rw [r.length] at hi
  have hd' := (List.getElem?_eq_some_iff.mp hd).2
  simp [r.length, hi, hd']
theorem itis_enumT {a : Addr} {vs : List V} {ds : List D} (h : TupAt K H1 S a vs) (r : Reps K H1 S vs ds) : ItIs K S H1 (ItnT K a) ((List.range ds.length).map fun i => .tuple [.int (i : Nat), ds.getD i .none]) := fun i H S' hS kp al => by
  have hM : ∀ a, S a → S a := fun _ h => h
  have h' := h.keep kp hM
  have r' := reps_later r hS kp hM
  rw [List.length_map, List.length_range, ← r.length]
  refine ⟨fun hi => ⟨⟨vs, vs[i]'hi, h'.sq, List.getElem?_eq_getElem _⟩, ?_⟩, fun hi => ⟨vs, h'.sq, hi⟩⟩
  rintro x H' ⟨T, y, rfl, hT, rfl, hy⟩
  obtain ⟨d, hd, hr⟩ := r'.getV (hy vs h'.sq)
  refine ⟨Keep.new hT, _, ?_, rep_pair hT al (.int _) hr⟩
  rw [r.length] at hi
  have hd' := (List.getElem?_eq_some_iff.mp hd).2
  simp [r.length, hi, hd']
theorem itis_zipL {a b : Addr} {vs ws : List V} {ds es : List D} (h : LstAt K H1 S a vs) (r : Reps K H1 S vs ds) (g : LstAt K H1 S b ws) (q : Reps K H1 S ws es) : ItIs K S H1 (Itz K a b) ((ds.zip es).map fun p => .tuple [p.1, p.2]) := fun i H S' hS kp al => by
  have hM : ∀ a, S a → S a := fun _ h => h
  have h' := h.keep kp hM
  have r' := reps_later r hS kp hM
  have g' := g.keep kp hM
  have q' := reps_later q hS kp hM
  rw [List.length_map, List.length_zip, ← r.length, ← q.length]
  refine ⟨fun hi => ⟨⟨vs, ws, vs[i]'(by omega), ws[i]'(by omega), h'.sq, g'.sq, List.getElem?_eq_getElem _, List.getElem?_eq_getElem _⟩, ?_⟩, fun hi => ⟨vs, ws, h'.sq, g'.sq, by omega⟩⟩
  rintro x H' ⟨T, y, z, rfl, hT, rfl, hy, hz⟩
  obtain ⟨d, hd, hr⟩ := r'.getV (hy vs h'.sq)
  obtain ⟨e, he, hs⟩ := q'.getV (hz ws g'.sq)
  refine ⟨Keep.new hT, _, ?_, rep_pair hT al hr hs⟩
  simp [List.getElem?_map, List.getElem?_zip_eq_some, hd, he, List.zip, List.getElem?_zipWith]
theorem itis_zipT {a b : Addr} {vs ws : List V} {ds es : List D} (h : TupAt K H1 S a vs) (r : Reps K H1 S vs ds) (g : TupAt K H1 S b ws) (q : Reps K H1 S ws es) : ItIs K S H1 (RZ.ItzT K a b) ((ds.zip es).map fun p => .tuple [p.1, p.2]) := fun i H S' hS kp al => by
  have hM : ∀ a, S a → S a := fun _ h => h
  have h' := h.keep kp hM
  have r' := reps_later r hS kp hM
  have g' := g.keep kp hM
  have q' := reps_later q hS kp hM
  rw [List.length_map, List.length_zip, ← r.length, ← q.length]
  refine ⟨fun hi => ⟨⟨vs, ws, vs[i]'(by omega), ws[i]'(by omega), h'.sq, g'.sq, List.getElem?_eq_getElem _, List.getElem?_eq_getElem _⟩, ?_⟩, fun hi => ⟨vs, ws, h'.sq, g'.sq, by omega⟩⟩
  rintro x H' ⟨T, y, z, rfl, hT, rfl, hy, hz⟩
  obtain ⟨d, hd, hr⟩ := r'.getV (hy vs h'.sq)
  obtain ⟨e, he, hs⟩ := q'.getV (hz ws g'.sq)
  refine ⟨Keep.new hT, _, ?_, rep_pair hT al hr hs⟩
  simp [List.getElem?_map, List.getElem?_zip_eq_some, hd, he, List.zip, List.getElem?_zipWith]
theorem itis_zipM {a b : Addr} {vs ws : List V} {ds es : List D} (h : TupAt K H1 S a vs) (r : Reps K H1 S vs ds) (g : LstAt K H1 S b ws) (q : Reps K H1 S ws es) : ItIs K S H1 (ItzM K a b) ((ds.zip es).map fun p => .tuple [p.1, p.2]) := fun i H S' hS kp al => by
  have hM : ∀ a, S a → S a := fun _ h => h
  have h' := h.keep kp hM
  have r' := reps_later r hS kp hM
  have g' := g.keep kp hM
  have q' := reps_later q hS kp hM
  rw [List.length_map, List.length_zip, ← r.length, ← q.length]
  refine ⟨fun hi => ⟨⟨vs, ws, vs[i]'(by omega), ws[i]'(by omega), h'.sq, g'.sq, List.getElem?_eq_getElem _, List.getElem?_eq_getElem _⟩, ?_⟩, fun hi => ⟨vs, ws, h'.sq, g'.sq, by omega⟩⟩
  rintro x H' ⟨T, y, z, rfl, hT, rfl, hy, hz⟩
  obtain ⟨d, hd, hr⟩ := r'.getV (hy vs h'.sq)
  obtain ⟨e, he, hs⟩ := q'.getV (hz ws g'.sq)
  refine ⟨Keep.new hT, _, ?_, rep_pair hT al hr hs⟩
  simp [List.getElem?_map, List.getElem?_zip_eq_some, hd, he, List.zip, List.getElem?_zipWith]
theorem itis_zipN {a b : Addr} {vs ws : List V} {ds es : List D} (h : LstAt K H1 S a vs) (r : Reps K H1 S vs ds) (g : TupAt K H1 S b ws) (q : Reps K H1 S ws es) : ItIs K S H1 (ItzN K a b) ((ds.zip es).map fun p => .tuple [p.1, p.2]) := fun i H S' hS kp al => by
  have hM : ∀ a, S a → S a := fun _ h => h
  have h' := h.keep kp hM
  have r' := reps_later r hS kp hM
  have g' := g.keep kp hM
  have q' := reps_later q hS kp hM
  rw [List.length_map, List.length_zip, ← r.length, ← q.length]
  refine ⟨fun hi => ⟨⟨vs, ws, vs[i]'(by omega), ws[i]'(by omega), h'.sq, g'.sq, List.getElem?_eq_getElem _, List.getElem?_eq_getElem _⟩, ?_⟩, fun hi => ⟨vs, ws, h'.sq, g'.sq, by omega⟩⟩
  rintro x H' ⟨T, y, z, rfl, hT, rfl, hy, hz⟩
  obtain ⟨d, hd, hr⟩ := r'.getV (hy vs h'.sq)
  obtain ⟨e, he, hs⟩ := q'.getV (hz ws g'.sq)
  refine ⟨Keep.new hT, _, ?_, rep_pair hT al hr hs⟩
  simp [List.getElem?_map, List.getElem?_zip_eq_some, hd, he, List.zip, List.getElem?_zipWith]
end
def TIv (K : Fr) (A0 : Prot) (EA : EAt) (W : WX) (f : Env → Out (List D)) : TI := fun σ H R => ∃ r Fs, Good K A0 σ H r Fs ∧ Pst K A0 EA W σ Fs H (f r) fun xs r' _ =>
  ∀ J H', Keep (inF Fs) H H' → Good K A0 σ H' r' Fs → ItIs K (Sv A0 Fs) H' J xs → R J H'
/-- the same where nothing in the heap is walked -/
def TIr (K : Fr) (A0 : Prot) (EA : EAt) (W : WX) (f : Env → Out (List D)) : TI := fun σ H R => ∃ r Fs, Good K A0 σ H r Fs ∧ Pst K A0 EA W σ Fs H (f r) fun xs r' _ =>
  ∀ J H', Keep (inF Fs) H H' → Good K A0 σ H' r' Fs → (∀ S, ItIs K S H' J xs) → R J H'
theorem TIr.of {K : Fr} {A0 : Prot} {EA : EAt} {W : WX} {f : Env → Out (List D)} {σ : L2.St} {H : Hp} {R : It → Hp → Prop} (h : TIv K A0 EA W f σ H R) : TIr K A0 EA W f σ H R := by
  obtain ⟨r, Fs, G, h⟩ := h
  refine ⟨r, Fs, G, ?_⟩
  cases e : f r with
  | ok xs r' => rw [e] at h; exact fun J H' k g it => h J H' k g (it _)
  | exc x r' => rw [e] at h; exact h
  | bad => rw [e] at h; exact h
section
variable {X : Cx} {tg : Expr} {A0 : Prot} {EA : EAt} {W : WX} {k ka kb kc : Nat} {a b c e : Expr} {es : List Expr} {fa fb fc : Env → Out D} {fs : Env → Out (List D)} {pos p2 p : Pos}
theorem PI.imp {iter : Expr} {t t' : TI} (h : PI X tg iter t) (i : ∀ σ H Q, t' σ H Q → t σ H Q) : PI X tg iter t' := ⟨fun pins s σ H Q I q => h.run pins s σ H Q I (i σ H Q q)⟩
/-- a list or a tuple -/
def iSeq (K : Fr) (tl : TE) : TI := fun σ H R => tl σ H fun x H1 => ∃ a, x = .ref a ∧ (((∃ xs, SqL K H1 a xs) ∧ R (Itl K a) H1) ∨ ((∃ xs, SqT K H1 a xs) ∧ R (Itt K a) H1))
theorem pi_seq {l : Expr} {tl : TE} (hl : PE X l tl) : PI X tg l (iSeq X.K tl) := by
  refine ⟨fun pins s σ H R I h => ?_⟩
  refine thn (hl.run pins s σ H _ I h) fun v s1 ⟨x, H1, I1, r1, q1⟩ => ?_
  obtain ⟨a, e, q1⟩ := q1
  subst e
  cases r1
  rcases q1 with ⟨⟨xs, hq⟩, q⟩ | ⟨⟨xs, hq⟩, q⟩
  · obtain ⟨its, rv, p, hz⟩ := I1.list hq
    refine wpAny_pyIter_list p.isList ?_
    refine ⟨s1.heap.objs.size, [s1.heap.objs.size], _, _, H1, rfl, I1.kept (t' := s1.toks) fun b o e => Heap.get?_push_of_some _ e, turn_list a _, ⟨_, Heap.get?_push_size _ rfl, rfl, rfl⟩, fun b hb => ?_, q⟩
    have e : b = s1.heap.objs.size := by simpa using hb
    rw [e]
    exact I1.fpOk (Nat.le_refl _) (I1.hok.fresh (Nat.le_refl _))
  · obtain ⟨its, rv, p, hz⟩ := I1.tuple hq
    refine wpAny_pyIter_tuple (show s1.heap.IsTuple a its.toArray from p) ?_
    refine ⟨s1.heap.objs.size, [s1.heap.objs.size], _, _, H1, rfl, I1.kept (t' := s1.toks) fun b o e => Heap.get?_push_of_some _ e, turn_tuple a _, ⟨_, Heap.get?_push_size _ rfl, rfl, rfl⟩, fun b hb => ?_, q⟩
    have e : b = s1.heap.objs.size := by simpa using hb
    rw [e]
    exact I1.fpOk (Nat.le_refl _) (I1.hok.fresh (Nat.le_refl _))
theorem ti_seq (ha : PE X a (TEv X.K A0 EA W ka fa)) : PI X tg a (TIv X.K A0 EA W fun r => (fa r).bind fun x r1 => lift (itemsD x) r1) := by
  refine PI.imp (pi_seq ha) fun σ H R ⟨r, Fs, G, h⟩ => ⟨r, Fs, G, h.bind fun x r1 _ h1 => fun v1 H1 k1 G1 q1 => ?_⟩
  obtain ⟨xs, hx, h2⟩ := h1.lift
  cases x <;> simp only [itemsD, reduceCtorEq, Option.some.injEq] at hx
  · subst hx
    obtain ⟨p, vs, rfl, hp, rs⟩ := rep_lst q1.1
    exact ⟨p, rfl, .inl ⟨⟨vs, hp.sq⟩, h2 _ _ k1 G1 (itis_list hp rs)⟩⟩
  · subst hx
    obtain ⟨p, vs, rfl, hp, rs⟩ := rep_tup q1.1
    exact ⟨p, rfl, .inr ⟨⟨vs, hp.sq⟩, h2 _ _ k1 G1 (itis_tup hp rs)⟩⟩
theorem rng_eq {x y : D} {d : D} (h : rngD x y = some d) : ∃ i j, x = .int i ∧ y = .int j ∧ (-(2 ^ 62) ≤ i ∧ i < 2 ^ 62 ∧ -(2 ^ 62) ≤ j ∧ j < 2 ^ 62) ∧ d = .list (rangeD i j) := by
  cases x <;> cases y <;> simp only [rngD, reduceCtorEq, Option.ite_none_right_eq_some, Option.some.injEq] at h
  exact ⟨_, _, rfl, rfl, h.1, h.2.symm⟩
theorem ti_rngB (hg : Gl X "range") (hm : X.mg "range" = none) (ha : PE X a (TEv X.K A0 EA W ka fa)) (hb : PE X b (TEv X.K A0 EA W kb fb)) (hsa : notStar a = true) (hsb : notStar b = true) :
    PI X tg (.Call (.Name "range" p) [a, b] [] pos) (TIr X.K A0 EA W fun r => ((fa r).bind fun x r1 => (fb r1).bind fun y r2 => lift (rngD x y) r2).bind fun x r1 => lift (itemsD x) r1) := by
  refine PI.imp (pi_range2 hg hm (ta_cons ha (ta_cons hb ta_nil (star_cons hsb)) (star_cons hsa)) (by rw [star_cons hsa, star_cons hsb]; rfl) (by rw [star_cons hsb]; rfl)) fun σ H R ⟨r, Fs, G, h⟩ => ?_
  refine ⟨r, Fs, G, ?_⟩
  cases e1 : fa r with
  | exc x r' => simp only [e1, Out.bind] at h ⊢; exact h
  | bad => simp only [e1, Out.bind] at h; exact h.elim
  | ok x r1 =>
    simp only [e1, Out.bind] at h ⊢
    cases e2 : fb r1 with
    | exc x r' => simp only [e2] at h ⊢; exact h
    | bad => simp only [e2] at h; exact h.elim
    | ok y r2 =>
      simp only [e2] at h ⊢
      cases e3 : rngD x y with
      | none => rw [e3] at h; exact h.elim
      | some d =>
        rw [e3] at h
        obtain ⟨i, j, rfl, rfl, hb, rfl⟩ := rng_eq e3
        intro vs H1 k1 G1 q1
        obtain ⟨v, w, rfl, r1', r2'⟩ := reps2 q1
        exact ⟨i, j, by rw [rep_int r1', rep_int r2'], hb, h _ _ k1 G1 fun S => itis_rng⟩
theorem ti_rngA (hg : Gl X "range") (hm : X.mg "range" = none) (hb : PE X b (TEv X.K A0 EA W kb fb)) (hsb : notStar b = true) :
    PI X tg (.Call (.Name "range" p) [b] [] pos) (TIr X.K A0 EA W fun r => ((fb r).bind fun y r2 => lift (rngD (.int 0) y) r2).bind fun x r1 => lift (itemsD x) r1) := by
  refine PI.imp (pi_range1 hg hm (ta_cons hb ta_nil (star_cons hsb)) (by rw [star_cons hsb]; rfl)) fun σ H R ⟨r, Fs, G, h⟩ => ?_
  refine ⟨r, Fs, G, ?_⟩
  cases e2 : fb r with
  | exc x r' => simp only [e2, Out.bind] at h ⊢; exact h
  | bad => simp only [e2, Out.bind] at h; exact h.elim
  | ok y r2 =>
    simp only [e2, Out.bind] at h ⊢
    cases e3 : rngD (.int 0) y with
    | none => rw [e3] at h; exact h.elim
    | some d =>
      rw [e3] at h
      obtain ⟨i, j, e, rfl, hb, rfl⟩ := rng_eq e3
      cases e
      intro vs H1 k1 G1 q1
      obtain ⟨v, rfl, r1'⟩ := reps1 q1
      refine ⟨j, by rw [rep_int r1'], hb.2.2.1, hb.2.2.2, ?_⟩
      have z := fun S => itis_rng (K := X.K) (S := S) (H1 := H1) (lo := 0) (hi := j)
      rw [Int.sub_zero] at z
      exact h _ _ k1 G1 z
theorem ti_rng1 (hg : Gl X "range") (hm : X.mg "range" = none) (hb : PE X b (TEv X.K A0 EA W kb fb)) (hsb : notStar b = true) :
    PI X tg (.Call (.Name "range" p) [b] [] pos) (TIv X.K A0 EA W fun r => ((fb r).bind fun y r2 => lift (rngD (.int 0) y) r2).bind fun x r1 => lift (itemsD x) r1) := PI.imp (ti_rngA hg hm hb hsb) fun _ _ _ q => TIr.of q
theorem ti_rng2 (hg : Gl X "range") (hm : X.mg "range" = none) (ha : PE X a (TEv X.K A0 EA W ka fa)) (hb : PE X b (TEv X.K A0 EA W kb fb)) (hsa : notStar a = true) (hsb : notStar b = true) :
    PI X tg (.Call (.Name "range" p) [a, b] [] pos) (TIv X.K A0 EA W fun r => ((fa r).bind fun x r1 => (fb r1).bind fun y r2 => lift (rngD x y) r2).bind fun x r1 => lift (itemsD x) r1) := PI.imp (ti_rngB hg hm ha hb hsa hsb) fun _ _ _ q => TIr.of q
theorem ti_enum {elts : List Expr} {kk : Nat} {tpos : Pos} (hg : Gl X "enumerate") (hm : X.mg "enumerate" = none) (hb : PE X b (TEv X.K A0 EA W kb fb)) (hsb : notStar b = true) :
    PI X (.Tuple elts kk tpos) (.Call (.Name "enumerate" p) [b] [] pos) (TIv X.K A0 EA W fun r => ((fb r).bind fun y r2 => lift (enumD y) r2).bind fun x r1 => lift (itemsD x) r1) := by
  refine PI.imp (pi_enum2 hg hm (ta_cons hb ta_nil (star_cons hsb)) (by rw [star_cons hsb]; rfl)) fun σ H R ⟨r, Fs, G, h⟩ => ?_
  refine ⟨r, Fs, G, ?_⟩
  cases e2 : fb r with
  | exc x r' => simp only [e2, Out.bind] at h ⊢; exact h
  | bad => simp only [e2, Out.bind] at h; exact h.elim
  | ok y r2 =>
    simp only [e2, Out.bind] at h ⊢
    cases y <;> simp only [enumD] at h
    case list xs =>
      intro vs H1 k1 G1 q1
      obtain ⟨v, rfl, r1'⟩ := reps1 q1
      obtain ⟨a, ws, rfl, la, ra⟩ := rep_lst r1'
      exact ⟨a, ws, rfl, .inl ⟨la.sq, h _ _ k1 G1 (itis_enum la ra)⟩⟩
    case tuple xs =>
      intro vs H1 k1 G1 q1
      obtain ⟨v, rfl, r1'⟩ := reps1 q1
      obtain ⟨a, ws, rfl, la, ra⟩ := rep_tup r1'
      exact ⟨a, ws, rfl, .inr ⟨la.sq, h _ _ k1 G1 (itis_enumT la ra)⟩⟩
    all_goals exact h.elim
theorem ti_zip {elts : List Expr} {kk : Nat} {tpos : Pos} (hg : Gl X "zip") (hm : X.mg "zip" = none) (ha : PE X a (TEv X.K A0 EA W ka fa)) (hb : PE X b (TEv X.K A0 EA W kb fb)) (hsa : notStar a = true) (hsb : notStar b = true) :
    PI X (.Tuple elts kk tpos) (.Call (.Name "zip" p) [a, b] [] pos) (TIv X.K A0 EA W fun r => ((fa r).bind fun x r1 => (fb r1).bind fun y r2 => lift (zipD x y) r2).bind fun x r1 => lift (itemsD x) r1) := by
  refine PI.imp (pi_zip4 hg hm (ta_cons ha (ta_cons hb ta_nil (star_cons hsb)) (star_cons hsa)) (star_cons hsa) (star_none (by simp [hsb]))) fun σ H R ⟨r, Fs, G, h⟩ => ?_
  refine ⟨r, Fs, G, ?_⟩
  cases e1 : fa r with
  | exc x r' => simp only [e1, Out.bind] at h ⊢; exact h
  | bad => simp only [e1, Out.bind] at h; exact h.elim
  | ok x r1 =>
    simp only [e1, Out.bind] at h ⊢
    cases e2 : fb r1 with
    | exc x r' => simp only [e2] at h ⊢; exact h
    | bad => simp only [e2] at h; exact h.elim
    | ok y r2 =>
      simp only [e2] at h ⊢
      intro vs H1 k1 G1 q1
      obtain ⟨v, w, rfl, r1', r2'⟩ := reps2 q1
      cases x <;> cases y <;> first | exact h.elim | skip
      · obtain ⟨a, ws, rfl, la, ra⟩ := rep_lst r1'
        obtain ⟨b, us, rfl, lb, rb⟩ := rep_lst r2'
        exact ⟨a, b, ws, us, rfl, .inl ⟨la.sq, lb.sq, h _ _ k1 G1 (itis_zipL la ra lb rb)⟩⟩
      · obtain ⟨a, ws, rfl, la, ra⟩ := rep_lst r1'
        obtain ⟨b, us, rfl, lb, rb⟩ := rep_tup r2'
        exact ⟨a, b, ws, us, rfl, .inr (.inr (.inr ⟨la.sq, lb.sq, h _ _ k1 G1 (itis_zipN la ra lb rb)⟩))⟩
      · obtain ⟨a, ws, rfl, la, ra⟩ := rep_tup r1'
        obtain ⟨b, us, rfl, lb, rb⟩ := rep_lst r2'
        exact ⟨a, b, ws, us, rfl, .inr (.inr (.inl ⟨la.sq, lb.sq, h _ _ k1 G1 (itis_zipM la ra lb rb)⟩))⟩
      · obtain ⟨a, ws, rfl, la, ra⟩ := rep_tup r1'
        obtain ⟨b, us, rfl, lb, rb⟩ := rep_tup r2'
        exact ⟨a, b, ws, us, rfl, .inr (.inl ⟨la.sq, lb.sq, h _ _ k1 G1 (itis_zipT la ra lb rb)⟩)⟩
theorem ti_rev (hg : Gl X "reversed") (hm : X.mg "reversed" = none) (hb : PE X b (TEv X.K A0 EA W kb fb)) (hsb : notStar b = true) :
    PI X tg (.Call (.Name "reversed" p) [b] [] pos) (TIv X.K A0 EA W fun r => ((fb r).bind fun y r2 => lift (revD y) r2).bind fun x r1 => lift (itemsD x) r1) := by
  refine PI.imp (RT.pi_revA hg hm hb (star_cons hsb)) fun σ H R ⟨r, Fs, G, h⟩ => ?_
  refine ⟨r, Fs, G, ?_⟩
  cases e2 : fb r with
  | exc x r' => simp only [e2, Out.bind] at h ⊢; exact h
  | bad => simp only [e2, Out.bind] at h; exact h.elim
  | ok y r2 =>
    simp only [e2, Out.bind] at h ⊢
    intro v H1 k1 G1 q1
    cases y <;> first | exact h.elim | skip
    · obtain ⟨a, ws, rfl, la, ra⟩ := rep_lst q1.1
      exact ⟨a, ws, rfl, .inl ⟨la.sq, h _ _ k1 G1 (itis_revL la ra)⟩⟩
    · obtain ⟨a, ws, rfl, la, ra⟩ := rep_tup q1.1
      exact ⟨a, ws, rfl, .inr ⟨la.sq, h _ _ k1 G1 (itis_revT la ra)⟩⟩
end
end Cw
end

section
namespace Cw
open PySem PySem.Spec PyProof.Rows L2

section
variable {K : Fr} {A0 : Prot} {σ σ' : L2.St} {H H' : Hp} {r r' : Env} {Fs : List (Option Addr)} {M : Addr → Prop}
theorem inF_set {i : Nat} {a : Addr} (h : inF (Fs.set i none) a) : inF Fs a := by
  obtain ⟨j, hj⟩ := List.mem_iff_getElem?.mp h
  by_cases e : i = j
  · subst e
    by_cases hl : i < Fs.length
    · rw [List.getElem?_set_self hl] at hj; cases hj
    · rw [List.getElem?_eq_none (by simpa using hl)] at hj; cases hj
  · rw [List.getElem?_set_ne e] at hj
    exact List.mem_of_getElem? hj
theorem Sv_set {i : Nat} {a : Addr} (h : Sv A0 (Fs.set i none) a) : Sv A0 Fs a := h.elim .inl fun q => .inr (inF_set q)
theorem set_get {α : Type} {l : List α} {i j : Nat} {x y : α} (h : (l.set i x)[j]? = some y) : (i = j ∧ x = y) ∨ (i ≠ j ∧ l[j]? = some y) := by
  by_cases e : i = j
  · subst e
    by_cases hl : i < l.length
    · rw [List.getElem?_set_self hl] at h; cases h; exact .inl ⟨rfl, rfl⟩
    · rw [List.getElem?_eq_none (by simpa using hl)] at h; cases h
  · rw [List.getElem?_set_ne e] at h; exact .inr ⟨e, h⟩
theorem OwnL.mono {S S' : Addr → Prop} {a : Addr} {d : D} (h : OwnL K H S a d) (m : ∀ a, S' a → S a) : OwnL K H S' a d := by
  obtain ⟨xs, ds, e, h1, h2⟩ := h
  exact ⟨xs, ds, e, h1, h2.mono fun a q => .inl (m a q)⟩
/-- a value is stored -/
theorem Good.setV (G : Good K A0 σ H r Fs) {v : V} {d : D} (q : Rep K H (Sv A0 Fs) v d) (i : Nat) : Good K A0 (σ.set i (some v)) H (r.set i (.val d)) (Fs.set i none) where
  len := by simp [G.len]
  slen := by simp [G.slen]
  val := fun j e h => by
    rcases set_get h with ⟨rfl, hh⟩ | ⟨ne, h⟩
    · cases hh
      have hl : i < r.length := by
        by_cases hl : i < r.length
        · exact hl
        · rw [List.getElem?_eq_none (by simpa using hl)] at h; cases h
      exact ⟨v, List.getElem?_set_self (by rw [G.slen]; exact hl), q.mono fun a z => .inl (Sv_set z)⟩
    · obtain ⟨w, h1, h2⟩ := G.val j e h
      exact ⟨w, by rw [List.getElem?_set_ne ne]; exact h1, h2.mono fun a z => .inl (Sv_set z)⟩
  own := fun j k e h => by
    rcases set_get h with ⟨rfl, hh⟩ | ⟨ne, h⟩
    · cases hh
    · obtain ⟨e1, a, h1, h2, h3, h4⟩ := G.own j k e h
      exact ⟨e1, a, by rw [List.getElem?_set_ne ne]; exact h1, by rw [List.getElem?_set_ne ne]; exact h2, h3, h4.mono fun a z => Sv_set z⟩
  chg := fun j e h => by
    rcases set_get h with ⟨rfl, hh⟩ | ⟨ne, h⟩
    · cases hh
    · obtain ⟨a, h1, h2, h3, h4⟩ := G.chg j e h
      exact ⟨a, by rw [List.getElem?_set_ne ne]; exact h1, by rw [List.getElem?_set_ne ne]; exact h2, h3, h4.mono fun a z => Sv_set z⟩
  prt := fun j e h => by
    rcases set_get h with ⟨rfl, hh⟩ | ⟨ne, h⟩
    · cases hh
    · obtain ⟨a, h1, h2, h3⟩ := G.prt j e h
      exact ⟨a, by rw [List.getElem?_set_ne ne]; exact h1, h2, h3.mono fun a z => Sv_set z⟩
  pal := fun a h => ⟨fun z => (G.pal a h).1 (inF_set z), (G.pal a h).2⟩
  inj := fun j k a h1 h2 => by
    rcases set_get h1 with ⟨_, h⟩ | ⟨_, h1⟩
    · cases h
    · rcases set_get h2 with ⟨_, h⟩ | ⟨_, h2⟩
      · cases h
      · exact G.inj j k a h1 h2
  emp := fun j a h => by
    rcases set_get h with ⟨_, h⟩ | ⟨ne, h⟩
    · cases h
    · rw [List.getElem?_set_ne ne]
      exact G.emp j a h
  al := G.al
theorem Good.setN (G : Good K A0 σ H r Fs) (i : Nat) : Good K A0 (σ.set i none) H (r.set i .non) (Fs.set i none) where
  len := by simp [G.len]
  slen := by simp [G.slen]
  val := fun j e h => by
    rcases set_get h with ⟨rfl, hh⟩ | ⟨ne, h⟩
    · cases hh
    · obtain ⟨w, h1, h2⟩ := G.val j e h
      exact ⟨w, by rw [List.getElem?_set_ne ne]; exact h1, h2.mono fun a z => .inl (Sv_set z)⟩
  own := fun j k e h => by
    rcases set_get h with ⟨rfl, hh⟩ | ⟨ne, h⟩
    · cases hh
    · obtain ⟨e1, a, h1, h2, h3, h4⟩ := G.own j k e h
      exact ⟨e1, a, by rw [List.getElem?_set_ne ne]; exact h1, by rw [List.getElem?_set_ne ne]; exact h2, h3, h4.mono fun a z => Sv_set z⟩
  chg := fun j e h => by
    rcases set_get h with ⟨rfl, hh⟩ | ⟨ne, h⟩
    · cases hh
    · obtain ⟨a, h1, h2, h3, h4⟩ := G.chg j e h
      exact ⟨a, by rw [List.getElem?_set_ne ne]; exact h1, by rw [List.getElem?_set_ne ne]; exact h2, h3, h4.mono fun a z => Sv_set z⟩
  prt := fun j e h => by
    rcases set_get h with ⟨rfl, hh⟩ | ⟨ne, h⟩
    · cases hh
    · obtain ⟨a, h1, h2, h3⟩ := G.prt j e h
      exact ⟨a, by rw [List.getElem?_set_ne ne]; exact h1, h2, h3.mono fun a z => Sv_set z⟩
  pal := fun a h => ⟨fun z => (G.pal a h).1 (inF_set z), (G.pal a h).2⟩
  inj := fun j k a h1 h2 => by
    rcases set_get h1 with ⟨_, h⟩ | ⟨_, h1⟩
    · cases h
    · rcases set_get h2 with ⟨_, h⟩ | ⟨_, h2⟩
      · cases h
      · exact G.inj j k a h1 h2
  emp := fun j a h => by
    rcases set_get h with ⟨_, h⟩ | ⟨ne, h⟩
    · cases h
    · rw [List.getElem?_set_ne ne]
      exact G.emp j a h
  al := G.al
def clrF (Fs : List (Option Addr)) : List Nat → List (Option Addr)
  | [] => Fs
  | i :: is => clrF (Fs.set i none) is
theorem clrF_append : ∀ (is js : List Nat) (Fs : List (Option Addr)), clrF Fs (is ++ js) = clrF (clrF Fs is) js
  | [], _, _ => rfl
  | i :: is, js, Fs => clrF_append is js (Fs.set i none)
theorem inF_clr : ∀ {is : List Nat} {Fs : List (Option Addr)} {a : Addr}, inF (clrF Fs is) a → inF Fs a
  | [], _, _, h => h
  | i :: is, Fs, a, h => inF_set (inF_clr (is := is) h)
/-- slots without a list of their own -/
theorem set_same {i : Nat} (h : ∀ a, Fs[i]? ≠ some (some a)) : Fs.set i none = Fs := by
  apply List.ext_getElem?
  intro j
  by_cases e : i = j
  · subst e
    by_cases hl : i < Fs.length
    · rw [List.getElem?_set_self hl]
      cases q : Fs[i]? with
      | none => rw [List.getElem?_eq_none_iff] at q; omega
      | some o => cases o with
        | none => rfl
        | some a => exact absurd q (h a)
    · rw [List.getElem?_eq_none (by simpa using hl), List.getElem?_eq_none (by simpa using hl)]
  · rw [List.getElem?_set_ne e]
theorem clr_same : ∀ {is : List Nat}, (∀ i ∈ is, ∀ a, Fs[i]? ≠ some (some a)) → clrF Fs is = Fs
  | [], _ => rfl
  | i :: is, h => by
    show clrF (Fs.set i none) is = Fs
    rw [set_same (h i List.mem_cons_self)]
    exact clr_same fun j hj => h j (List.mem_cons_of_mem _ hj)
theorem okW_no {vs : List Nat} (G : Good K A0 σ H r Fs) (h : okW r vs = true) : ∀ i ∈ vs, ∀ a, Fs[i]? ≠ some (some a) := by
  intro i hi a e
  have h' := List.all_eq_true.mp h i hi
  rcases G.emp i a e with ⟨d, q⟩ | ⟨d, q⟩ <;> (rw [q] at h'; cases h')
theorem wipe_get {i : Nat} : ∀ {vs : List Nat} {l : L2.St}, (wipe l vs)[i]? = if i ∈ vs then (if i < l.length then some none else none) else l[i]?
  | [], l => by simp [wipe]
  | v :: vs, l => by
    unfold wipe
    by_cases e : v = i
    · subst e
      by_cases hl : v < l.length
      · rw [List.getElem?_set_self (by rw [wipe_length]; exact hl)]; simp [hl]
      · rw [List.getElem?_eq_none (by rw [List.length_set, wipe_length]; omega)]; simp [hl]
    · rw [List.getElem?_set_ne e, wipe_get]
      have : i ∈ v :: vs ↔ i ∈ vs := by simp [List.mem_cons, Ne.symm e]
      simp only [this]
theorem wipeE_length : ∀ {vs : List Nat} {l : Env}, (wipeE l vs).length = l.length
  | [], _ => rfl
  | v :: vs, l => by unfold wipeE; rw [List.length_set, wipeE_length]
theorem wipeE_get {i : Nat} : ∀ {vs : List Nat} {l : Env}, (wipeE l vs)[i]? = if i ∈ vs then (if i < l.length then some .non else none) else l[i]?
  | [], l => by simp [wipeE]
  | v :: vs, l => by
    unfold wipeE
    by_cases e : v = i
    · subst e
      by_cases hl : v < l.length
      · rw [List.getElem?_set_self (by rw [wipeE_length]; exact hl)]; simp [hl]
      · rw [List.getElem?_eq_none (by rw [List.length_set, wipeE_length]; omega)]; simp [hl]
    · rw [List.getElem?_set_ne e, wipeE_get]
      have : i ∈ v :: vs ↔ i ∈ vs := by simp [List.mem_cons, Ne.symm e]
      simp only [this]
theorem unwipeE_length {r0 : Env} : ∀ {vs : List Nat} {l : Env}, (unwipeE r0 l vs).length = l.length
  | [], _ => rfl
  | v :: vs, l => by unfold unwipeE; rw [List.length_set, unwipeE_length]
theorem unwipeE_get {r0 : Env} {i : Nat} : ∀ {vs : List Nat} {l : Env}, (unwipeE r0 l vs)[i]? = if i ∈ vs then (if i < l.length then some (r0.getD i .non) else none) else l[i]?
  | [], l => by simp [unwipeE]
  | v :: vs, l => by
    unfold unwipeE
    by_cases e : v = i
    · subst e
      by_cases hl : v < l.length
      · rw [List.getElem?_set_self (by rw [unwipeE_length]; exact hl)]; simp [hl]
      · rw [List.getElem?_eq_none (by rw [List.length_set, unwipeE_length]; omega)]; simp [hl]
    · rw [List.getElem?_set_ne e, unwipeE_get]
      have : i ∈ v :: vs ↔ i ∈ vs := by simp [List.mem_cons, Ne.symm e]
      simp only [this]
theorem wipe_eq {vs : List Nat} {l l' : L2.St} (hl : l.length = l'.length) (h : ∀ i, i ∉ vs → l[i]? = l'[i]?) : wipe l vs = wipe l' vs := by
  apply List.ext_getElem?
  intro i
  rw [wipe_get, wipe_get, hl]
  by_cases e : i ∈ vs
  · simp [e]
  · simp [e, h i e]
theorem wipe_wipe {vs ws : List Nat} {l : L2.St} (h : ∀ i ∈ ws, i ∈ vs) : wipe (wipe l ws) vs = wipe l vs :=
  wipe_eq (wipe_length _ _) fun i hi => wipe_out fun z => hi (h i z)
theorem Good.wipe (G : Good K A0 σ H r Fs) {vs : List Nat} (h : ∀ i ∈ vs, ∀ a, Fs[i]? ≠ some (some a)) : Good K A0 (wipe σ vs) H (wipeE r vs) Fs := by
  induction vs with
  | nil => exact G
  | cons v vs ih =>
    have g := (ih fun i hi => h i (List.mem_cons_of_mem _ hi)).setN v
    rw [set_same (h v List.mem_cons_self)] at g
    exact g
theorem Good.unwipe {r1 : Env} {vs : List Nat} {H1 : Hp} (G1 : Good K A0 σ H1 r1 Fs) (kp : Keep (inF Fs) H1 H) (ok : okW r1 vs = true) (G : Good K A0 (L2.wipe σ vs) H r Fs) : Good K A0 σ H (unwipeE r1 r vs) Fs where
  len := by rw [unwipeE_length, G.len]
  slen := by rw [unwipeE_length, ← G.slen, wipe_length]
  val := fun i d h => by
    rw [unwipeE_get] at h
    by_cases e : i ∈ vs
    · rw [if_pos e] at h
      split at h
      · cases q : r1[i]? with
        | none => simp [List.getD_eq_getElem?_getD, q] at h
        | some x =>
          simp only [List.getD_eq_getElem?_getD, q, Option.getD_some, Option.some.injEq] at h
          subst h
          obtain ⟨v, h1, h2⟩ := G1.val i d q
          exact ⟨v, h1, h2.keep kp sub_in⟩
      · cases h
    · rw [if_neg e] at h
      obtain ⟨v, h1, h2⟩ := G.val i d h
      exact ⟨v, by rw [wipe_out e] at h1; exact h1, h2⟩
  own := fun i k d h => by
    rw [unwipeE_get] at h
    by_cases e : i ∈ vs
    · rw [if_pos e] at h
      have ok' := List.all_eq_true.mp ok i e
      split at h
      · cases q : r1[i]? with
        | none => simp [List.getD_eq_getElem?_getD, q] at h
        | some x =>
          simp only [List.getD_eq_getElem?_getD, q, Option.getD_some, Option.some.injEq] at h
          subst h
          rw [q] at ok'; cases ok'
      · cases h
    · rw [if_neg e] at h
      obtain ⟨ek, a, h1, h2, h3, h4⟩ := G.own i k d h
      exact ⟨ek, a, h1, by rw [wipe_out e] at h2; exact h2, h3, h4⟩
  chg := fun i d h => by
    rw [unwipeE_get] at h
    by_cases e : i ∈ vs
    · rw [if_pos e] at h
      have ok' := List.all_eq_true.mp ok i e
      split at h
      · cases q : r1[i]? with
        | none => simp [List.getD_eq_getElem?_getD, q] at h
        | some x =>
          simp only [List.getD_eq_getElem?_getD, q, Option.getD_some, Option.some.injEq] at h
          subst h
          rw [q] at ok'; cases ok'
      · cases h
    · rw [if_neg e] at h
      obtain ⟨a, h1, h2, h3, h4⟩ := G.chg i d h
      exact ⟨a, h1, by rw [wipe_out e] at h2; exact h2, h3, h4⟩
  prt := fun i d h => by
    rw [unwipeE_get] at h
    by_cases e : i ∈ vs
    · rw [if_pos e] at h
      split at h
      · cases q : r1[i]? with
        | none => simp [List.getD_eq_getElem?_getD, q] at h
        | some x =>
          simp only [List.getD_eq_getElem?_getD, q, Option.getD_some, Option.some.injEq] at h
          subst h
          obtain ⟨a, h1, h2, h3⟩ := G1.prt i d q
          exact ⟨a, h1, h2, h3.keep kp sub_in (G1.pal a h2).1⟩
      · cases h
    · rw [if_neg e] at h
      obtain ⟨a, h2, h3, h4⟩ := G.prt i d h
      exact ⟨a, by rw [wipe_out e] at h2; exact h2, h3, h4⟩
  pal := G.pal
  inj := G.inj
  emp := fun i a h => by
    rw [unwipeE_get]
    have e : i ∉ vs := fun e => okW_no G1 ok i e a h
    rw [if_neg e]
    exact G.emp i a h
  al := G.al
/-- changed at M, which is none of ours -/
theorem Good.keepM (G : Good K A0 σ H r Fs) (k : Keep M H H') (hM : ∀ a, M a → A0 a) (hF : ∀ a, inF Fs a → ¬ M a) (hP : ∀ a, A0.p a → ¬ M a) : Good K A0 σ H' r Fs where
  len := G.len
  slen := G.slen
  val := fun i d e => let ⟨v, h, q⟩ := G.val i d e; ⟨v, h, q.keep k fun a z => .inl (hM a z)⟩
  own := fun i k' d e => let ⟨ek, a, h1, h2, h3, q⟩ := G.own i k' d e; ⟨ek, a, h1, h2, h3, q.keep k (fun a z => .inl (hM a z)) (hF a (List.mem_of_getElem? h1))⟩
  chg := fun i d e => let ⟨a, h1, h2, h3, q⟩ := G.chg i d e; ⟨a, h1, h2, h3, q.keep k (fun a z => .inl (hM a z)) (hF a (List.mem_of_getElem? h1))⟩
  prt := fun i d e => let ⟨a, h1, h2, q⟩ := G.prt i d e; ⟨a, h1, h2, q.keep k (fun a z => .inl (hM a z)) (hP a h2)⟩
  pal := fun a h => ⟨(G.pal a h).1, k.2 a (G.pal a h).2⟩
  inj := G.inj
  emp := G.emp
  al := fun a h => k.2 a (G.al a h)
/-- a new place is taken -/
theorem Good.addA (G : Good K A0 σ H r Fs) {p : Addr} {o : HO} (hp : H p = none) : Good K (A0.add p) σ (upd H p o) r Fs := by
  have mn : ∀ a, Sv (A0.add p) Fs a → Sv A0 Fs a ∨ H a = none := fun a h => by
    rcases h with (h | rfl) | h
    · exact .inl (.inl h)
    · exact .inr hp
    · exact .inl (.inr h)
  have kp : Keep (fun _ => False) H (upd H p o) := Keep.new hp
  have ow : ∀ {a d}, OwnL K H (Sv A0 Fs) a d → OwnL K (upd H p o) (Sv (A0.add p) Fs) a d := fun {a d} ⟨xs, ds, e, h1, h2⟩ =>
    ⟨xs, ds, e, kp.1 _ _ h1 fun z => z, (h2.mono mn).keep kp fun _ z => z.elim⟩
  refine ⟨G.len, G.slen, fun i d e => ?_, fun i k' d e => ?_, fun i d e => ?_, fun i d e => let ⟨a, h1, h2, q⟩ := G.prt i d e; ⟨a, h1, h2, ow q⟩, fun a h => ⟨(G.pal a h).1, kp.2 a (G.pal a h).2⟩, G.inj, G.emp, fun a h => ?_⟩
  · obtain ⟨v, h, q⟩ := G.val i d e
    exact ⟨v, h, (q.mono mn).keep kp fun _ z => z.elim⟩
  · obtain ⟨ek, a, h1, h2, h3, q⟩ := G.own i k' d e
    refine ⟨ek, a, h1, h2, fun z => ?_, ow q⟩
    rcases z with z | rfl
    · exact h3 z
    · obtain ⟨xs, e'⟩ := G.ownAt h1
      rw [hp] at e'; cases e'
  · obtain ⟨a, h1, h2, h3, q⟩ := G.chg i d e
    exact ⟨a, h1, h2, .inl h3, ow q⟩
  · rcases h with h | rfl
    · exact kp.2 a (G.al a h)
    · rw [upd_same]; exact fun z => nomatch z
theorem Good.dropA {p : Addr} (G : Good K (A0.add p) σ H r Fs) (hp : ∀ a, inF Fs a → a ≠ p) : Good K A0 σ H r Fs where
  len := G.len
  slen := G.slen
  val := fun i d e => let ⟨v, h, q⟩ := G.val i d e; ⟨v, h, q.mono fun a z => .inl (z.elim (fun z => .inl (.inl z)) .inr)⟩
  own := fun i k' d e => let ⟨ek, a, h1, h2, h3, q⟩ := G.own i k' d e; ⟨ek, a, h1, h2, fun z => h3 (.inl z), q.mono fun a z => z.elim (fun z => .inl (.inl z)) .inr⟩
  chg := fun i d e => let ⟨a, h1, h2, h3, q⟩ := G.chg i d e; ⟨a, h1, h2, h3.elim id fun e => absurd e (hp a (List.mem_of_getElem? h1)), q.mono fun a z => z.elim (fun z => .inl (.inl z)) .inr⟩
  prt := fun i d e => let ⟨a, h1, h2, q⟩ := G.prt i d e; ⟨a, h1, h2, q.mono fun a z => z.elim (fun z => .inl (.inl z)) .inr⟩
  pal := G.pal
  inj := G.inj
  emp := G.emp
  al := fun a h => G.al a (.inl h)
end
def TGv (K : Fr) (t : Tg) : TG := fun v σ H Q => ∃ A0 r Fs d r', Good K A0 σ H r Fs ∧ Rep K H (Sv A0 Fs) v d ∧ asgG t d r = some r' ∧
  ∀ σ', Good K A0 σ' H r' (clrF Fs (tgS t)) → (∀ i, i ∉ tgS t → σ'[i]? = σ[i]?) → σ'.length = σ.length → Q σ' H
def TGsv (K : Fr) (ts : List Tg) : TGs := fun vs σ H Q => ∃ A0 r Fs ds r', Good K A0 σ H r Fs ∧ Reps K H (Sv A0 Fs) vs ds ∧ asgTs ts ds r = some r' ∧
  ∀ σ', Good K A0 σ' H r' (clrF Fs (tgSs ts)) → (∀ i, i ∉ tgSs ts → σ'[i]? = σ[i]?) → σ'.length = σ.length → Q σ' H
theorem asg_cons {e : Expr} {es : List Expr} {env : PySem.Env} (h : notStar e = true) : (assignEach (e :: es) env) = (false, assign e env) :: assignEach es env := by
  cases e <;> first | rfl | (simp [notStar] at h)
section
variable {X : Cx} {pos : Pos}
/-- the names of a target -/
structure TgName (X : Cx) (i : Nat) (x : Str) : Prop where
  at_ : X.N[i]? = some x
  loc : Loc X.env.scope x
  fn : X.fn x = true ∨ X.env.scope.names.lookup x = some .local
mutual
/-- a target is t -/
def tgIs (ok : Nat → Str → Bool) : Tg → Expr → Bool
  | .nm i, e => match e with
    | .Name x _ => ok i x
    | _ => false
  | .tup ts, e => match e with
    | .Tuple es _ _ => tgsIs ok ts es
    | _ => false
def tgsIs (ok : Nat → Str → Bool) : List Tg → List Expr → Bool
  | [], es => match es with
    | [] => true
    | _ => false
  | t :: ts, es => match es with
    | e :: es => notStar e && tgIs ok t e && tgsIs ok ts es
    | [] => false
end
theorem tgs_ns {ok : Nat → Str → Bool} : ∀ {ts : List Tg} {es : List Expr} {env : PySem.Env}, tgsIs ok ts es = true → (assignEach es env).length = ts.length ∧ (assignEach es env).findIdx? (·.1) = none
  | [], [], _, _ => ⟨rfl, rfl⟩
  | t :: ts, e :: es, env, h => by
    simp only [tgsIs, Bool.and_eq_true] at h
    obtain ⟨h1, h2⟩ := tgs_ns (env := env) h.2
    rw [asg_cons h.1.1]
    exact ⟨by simp [h1], by simp [List.findIdx?_cons, h2]⟩
  | [], _ :: _, _, h => by simp [tgsIs] at h
  | _ :: _, [], _, h => by simp [tgsIs] at h
mutual
theorem pg_of {ok : Nat → Str → Bool} (hN : X.N.Nodup) (hc : X.calm = true) (hok : ∀ i x, ok i x = true → TgName X i x) : ∀ {t : Tg} {e : Expr}, tgIs ok t e = true → PG X e (TGv X.K t)
  | .nm i, e, h => by
    cases e <;> simp only [tgIs, Bool.false_eq_true] at h
    rename_i x p
    have n := hok i x h
    have g := pg_name (pos := p) hN n.at_ n.loc n.fn
    refine ⟨fun pins s σ H v u Q I r ⟨A0, r0, Fs, d, r', G, q, ha, hq⟩ => g.run pins s σ H v u Q I r ?_⟩
    simp only [asgG, Option.some.injEq] at ha
    subst ha
    exact hq _ (G.setV q i) (fun j hj => List.getElem?_set_ne (by simp [tgS] at hj; exact fun e => hj e.symm)) (by simp)
  | .tup ts, e, h => by
    cases e <;> simp only [tgIs, Bool.false_eq_true] at h
    rename_i es k p
    obtain ⟨h1, h2⟩ := tgs_ns (env := X.env) h
    have g := pg_tup (pos := p) (k := k) hc (pgs_of hN hc hok h) h1 h2
    refine ⟨fun pins s σ H v u Q I r ⟨A0, r0, Fs, d, r', G, q, ha, hq⟩ => g.run pins s σ H v u Q I r ?_⟩
    cases d <;> simp only [asgG, reduceCtorEq] at ha
    obtain ⟨a, xs, rfl, ta, rs⟩ := rep_tup q
    have hl : ∀ {ts : List Tg} {ds : List D} {r r' : Env}, asgTs ts ds r = some r' → ts.length = ds.length := by
      intro ts
      induction ts with
      | nil => intro ds r r' h; cases ds <;> simp [asgTs] at h ⊢
      | cons t ts ih =>
        intro ds r r' h
        cases ds with
        | nil => simp [asgTs] at h
        | cons d ds =>
          simp only [asgTs, Option.bind_eq_some_iff] at h
          obtain ⟨r2, _, h⟩ := h
          simp [ih h]
    exact ⟨a, xs, rfl, ta.sq, by rw [rs.length, hl ha], A0, r0, Fs, _, r', G, rs, ha, hq⟩
theorem pgs_of {ok : Nat → Str → Bool} (hN : X.N.Nodup) (hc : X.calm = true) (hok : ∀ i x, ok i x = true → TgName X i x) : ∀ {ts : List Tg} {es : List Expr}, tgsIs ok ts es = true → PGs X es (TGsv X.K ts)
  | [], [], h => by
    refine ⟨fun pins s σ H vs us Q I r ⟨A0, r0, Fs, ds, r', G, q, ha, hq⟩ => pgs_nil.run pins s σ H vs us Q I r ?_⟩
    cases ds <;> simp only [asgTs, reduceCtorEq, Option.some.injEq] at ha
    cases q
    subst ha
    exact ⟨rfl, hq σ G (fun _ _ => rfl) rfl⟩
  | t :: ts, e :: es, h => by
    simp only [tgsIs, Bool.and_eq_true] at h
    have g := pgs_cons (pg_of hN hc hok h.1.2) (pgs_of hN hc hok h.2) (by rw [asg_cons h.1.1]; rfl)
    refine ⟨fun pins s σ H vs us Q I r ⟨A0, r0, Fs, ds, r', G, q, ha, hq⟩ => g.run pins s σ H vs us Q I r ?_⟩
    cases ds <;> simp only [asgTs, reduceCtorEq, Option.bind_eq_some_iff] at ha
    obtain ⟨r2, ha1, ha2⟩ := ha
    cases q with
    | cons q1 q2 =>
      refine ⟨_, _, rfl, A0, r0, Fs, _, r2, G, q1, ha1, fun σ1 G1 e1 l1 => ?_⟩
      refine ⟨A0, r2, _, _, r', G1, q2.mono fun a z => .inl (z.elim .inl fun z => .inr (inF_clr z)), ha2, fun σ2 G2 e2 l2 => ?_⟩
      refine hq σ2 ?_ (fun i hi => ?_) (l2.trans l1)
      · simp only [tgSs]
        rw [clrF_append]
        exact G2
      · simp only [tgSs, List.mem_append, not_or] at hi
        rw [e2 i hi.2, e1 i hi.1]
  | [], _ :: _, h => by simp [tgsIs] at h
  | _ :: _, [], h => by simp [tgsIs] at h
end
end
end Cw
end

section
namespace Cw
open PySem PySem.Spec PyProof.Rows L2

def WNo : WX := fun _ _ _ _ => False
/-- readings for any place to be kept away from -/
def TEy (K : Fr) (EA : EAt) (k : Nat) (f : Env → Out D) : TE := fun σ H Q => ∃ A0, TEv K A0 EA WNo k f σ H Q
def TTy (K : Fr) (EA : EAt) (f : Env → Out Bool) : TT := fun σ H Q => ∃ A0, TTv K A0 EA WNo f σ H Q
def TIy (K : Fr) (EA : EAt) (f : Env → Out (List D)) : TI := fun σ H Q => ∃ A0, TIv K A0 EA WNo f σ H Q
theorem tey_of {Y : Cx} {K : Fr} {EA : EAt} {e : Expr} {k : Nat} {f : Env → Out D} (h : ∀ A0, PE Y e (TEv K A0 EA WNo k f)) : PE Y e (TEy K EA k f) :=
  ⟨fun pins s σ H Q I ⟨A0, q⟩ => (h A0).run pins s σ H Q I q⟩
theorem tiy_of {Y : Cx} {K : Fr} {EA : EAt} {tg e : Expr} {f : Env → Out (List D)} (h : ∀ A0, PI Y tg e (TIv K A0 EA WNo f)) : PI Y tg e (TIy K EA f) :=
  ⟨fun pins s σ H Q I ⟨A0, q⟩ => (h A0).run pins s σ H Q I q⟩
theorem tty_of {Y : Cx} {K : Fr} {EA : EAt} {e : Expr} {f : Env → Out Bool} (h : ∀ A0, PT Y e (TTv K A0 EA WNo f)) : PTs Y [e] (TTy K EA f) :=
  pts_one ⟨fun pins s σ H Q I ⟨A0, q⟩ => (h A0).run pins s σ H Q I q⟩
theorem tty_nil {Y : Cx} {K : Fr} {EA : EAt} : PTs Y [] (TTy K EA fun r => .ok true r) :=
  ⟨fun pins s σ H Q I ⟨A0, r, Fs, G, h⟩ => pts_nil.run pins s σ H Q I (h H Keep.refl G)⟩
def elt1 (t : Tg) (fc : Env → Out Bool) (fe : Env → Out D) (x : D) (rr : Env) : Out (Option D) := (match asgG t x rr with
        | none => .bad
        | some r2 => (fc r2).bind fun k r3 => if k then (fe r3).bind fun y r4 => .ok (some y) r4 else .ok none r3 : Out (Option D))
theorem Keep.putNew {M : Addr → Prop} {H0 H : Hp} {p : Addr} {o : HO} (k : Keep M H0 H) (h : H0 p = none) : Keep M H0 (upd H p o) :=
  ⟨fun a u e n => by rw [upd_ne (ne_of_none e h)]; exact k.1 a u e n, fun a e => by
    by_cases q : a = p
    · rw [q, upd_same]; exact fun z => nomatch z
    · rw [upd_ne q]; exact k.2 a e⟩
section
variable {K : Fr} {EA : EAt} {A0 : Prot} {σ : L2.St} {Fs : List (Option Addr)} {D : Addr} {H0 : Hp}
/-- the state of a comprehension's loop at H: its new list, what is collected -/
structure LcAt (K : Fr) (A0 : Prot) (σ : L2.St) (Fs : List (Option Addr)) (D : Addr) (H0 H : Hp) (rr : Env) (acc : List PyData) : Prop where
  good : Good K (A0.add D) σ H rr Fs
  kp : Keep (inF Fs) H0 H
  lst : ∃ va, H D = some (.lst va) ∧ Reps K H (Sv (A0.add D) Fs) va acc
  new : H0 D = none
  out : ∀ a, inF Fs a ∨ A0.p a → a ≠ D
theorem LcAt.keep {σ' : L2.St} {H H' : Hp} {rr rr' : Env} {acc : List PyData} (L : LcAt K A0 σ Fs D H0 H rr acc) (k : Keep (inF Fs) H H') (G : Good K (A0.add D) σ' H' rr' Fs) : LcAt K A0 σ' Fs D H0 H' rr' acc where
  good := G
  kp := L.kp.trans k
  lst := let ⟨va, h1, h2⟩ := L.lst; ⟨va, k.1 _ _ h1 fun z => L.out D (.inl z) rfl, h2.keep k sub_in⟩
  new := L.new
  out := L.out
theorem LcAt.push {H : Hp} {rr : Env} {acc : List PyData} {y : V} {d : PyData} (L : LcAt K A0 σ Fs D H0 H rr acc) (r : Rep K H (Sv (A0.add D) Fs) y d) :
    ∃ va, H D = some (.lst va) ∧ va.length = acc.length ∧ LcAt K A0 σ Fs D H0 (upd H D (.lst (va ++ [y]))) rr (acc ++ [d]) := by
  obtain ⟨va, h1, h2⟩ := L.lst
  have kp : Keep (fun a => a = D) H (upd H D (.lst (va ++ [y]))) := Keep.put rfl
  refine ⟨va, h1, h2.length, ?_⟩
  exact {
    good := L.good.keepM kp (fun a h => .inr h) (fun a h => L.out a (.inl h)) (fun a h => L.out a (.inr h))
    kp := L.kp.putNew L.new
    lst := ⟨_, upd_same, (h2.append (.cons r .nil)).keep kp fun a h => .inl (.inr h)⟩
    new := L.new
    out := L.out }
/-- one item -/
theorem lc_item {t : Tg} {fc : Env → Out Bool} {fe : Env → Out PyData} {ke : Nat} {vs : List Nat} {x : PyData} {v : V} {H : Hp} {rr r' : Env} {acc : List PyData} {o : Option PyData} {Nx : Hp → Prop}
    (ht : ∀ i ∈ tgS t, i ∈ vs) (hv : ∀ i ∈ vs, ∀ a, Fs[i]? ≠ some (some a))
    (L : LcAt K A0 (wipe σ vs) Fs D H0 H rr acc) (rx : Rep K H (Sv (A0.add D) Fs) v x) (he : elt1 t fc fe x rr = .ok o r') (hlen : o.isSome = true → acc.length < LIM)
    (hN : ∀ σ' H', wipe σ' vs = wipe σ vs → Keep (fun a => inF Fs a ∨ a = D) H H' → LcAt K A0 σ' Fs D H0 H' r' (acc ++ o.toList) → Nx H') :
    TGv K t v (wipe σ vs) H fun σ2 H2 => wipe σ2 vs = wipe σ vs ∧ TTy K EA fc σ2 H2 fun b H3 =>
      if b = true then TEy K EA ke fe σ2 H3 fun y H4 => ∃ acc, H4 D = some (.lst acc) ∧ acc.length < sizeLine ∧ Nx (upd H4 D (.lst (acc ++ [y]))) else Nx H3 := by
  unfold elt1 at he
  cases ha : asgG t x rr with
  | none => simp [ha] at he
  | some r2 =>
    simp only [ha] at he
    obtain ⟨k, r3, e3, he⟩ := bind_ok he
    refine ⟨_, rr, Fs, x, r2, L.good, rx, ha, fun σ2 G2 h2 l2 => ?_⟩
    rw [clr_same fun i hi => hv i (ht i hi)] at G2
    have hw : wipe σ2 vs = wipe σ vs := by
      rw [← wipe_wipe (l := σ) (vs := vs) (ws := vs) fun _ h => h]
      exact wipe_eq l2 fun i hi => h2 i fun z => hi (ht i z)
    refine ⟨hw, _, r2, Fs, G2, ?_⟩
    rw [e3]
    intro H3 k3 G3
    cases k with
    | false =>
      rw [if_neg Bool.false_ne_true] at he ⊢
      cases he
      exact hN σ2 H3 hw (k3.weak fun _ h => .inl h) (by simpa using L.keep k3 G3)
    | true =>
      rw [if_pos rfl] at he ⊢
      obtain ⟨y, r4, e4, he⟩ := bind_ok he
      cases he
      refine ⟨_, r3, Fs, G3, ?_⟩
      rw [e4]
      intro yv H4 k4 G4 q4
      have L4 := L.keep (k3.trans k4) G4
      obtain ⟨va, h1, h5, L5⟩ := L4.push q4.1
      exact ⟨va, h1, by rw [h5, ← LIM_eq]; exact hlen rfl, hN σ2 _ hw (((k3.trans k4).weak fun _ h => .inl h).trans (Keep.put (.inr rfl))) L5⟩
/-- the measure of a comprehension's loop -/
theorem Good.shape {H : Hp} {r : Env} (G : Good K A0 σ H r Fs) : True := trivial
end
section
variable {X : Cx} {tg : Expr} {A0 : Prot} {EA : EAt} {W : WX} {k ka kb kc : Nat} {pos p2 p : Pos}
/-- a comprehension over one source -/
def compF (t : Tg) (fi : Env → Out (List D)) (fc : Env → Out Bool) (fe : Env → Out D) : Env → Out D := fun r => (fi r).bind fun xs r1 =>
      if okW r1 (tgS t) then (loopC (fun x rr => (elt1 t fc fe x rr).wiped (tgS t)) xs [] (wipeE r1 (tgS t))).noX.bind fun ys r' =>
          .ok (.list ys) (unwipeE r1 r' (tgS t)) else .bad
theorem noX_ok {α : Type} {o : Out α} {a : α} {r : Env} (h : o.noX = .ok a r) : o = .ok a r := by
  cases o <;> simp_all [Out.noX]
theorem wiped_ok {α : Type} {o : Out α} {vs : List Nat} {a : α} {r : Env} (h : o.wiped vs = .ok a r) : ∃ r0, o = .ok a r0 ∧ r = wipeE r0 vs := by
  obtain ⟨a', r1, e, h⟩ := bind_ok h
  cases h
  exact ⟨r1, e, rfl⟩
theorem tv_comp {t : Tg} {fi : Env → Out (List D)} {fc : Env → Out Bool} {fe : Env → Out D} {ke : Nat} {σ : L2.St} {H : Hp} {Q : VK} (h : TEv X.K A0 EA W 1 (compF t fi fc fe) σ H Q) :
    tLc (TIv X.K A0 EA W fi) (TGv X.K t) (TTy X.K EA fc) (TEy X.K EA ke fe) (tgS t) σ H Q := by
  obtain ⟨r, Fs, G, h⟩ := h
  refine ⟨r, Fs, G, h.bind fun xs r1 _ h1 => fun J H1 k1 G1 it => fun D hD => ?_⟩
  by_cases hw : okW r1 (tgS t) = true
  case neg => rw [if_neg hw] at h1; exact h1.elim
  rw [if_pos hw] at h1
  have hv := okW_no G1 hw
  cases hl : loopC (fun x rr => (elt1 t fc fe x rr).wiped (tgS t)) xs [] (wipeE r1 (tgS t)) with
  | exc x r' => simp only [hl, Out.noX, Out.bind] at h1; exact h1.elim
  | bad => simp only [hl, Out.noX, Out.bind] at h1; exact h1.elim
  | ok ys r' =>
    simp only [hl, Out.noX, Out.bind] at h1
    have hout : ∀ a, inF Fs a ∨ A0.p a → a ≠ D := fun a ha e => by
      subst e
      rcases ha with ha | ha
      · obtain ⟨zs, e'⟩ := G1.lstF ha
        rw [hD] at e'; cases e'
      · exact (G1.pal a ha).2 hD
    have L0 : LcAt X.K A0 (wipe σ (tgS t)) Fs D H1 (upd H1 D (.lst [])) (wipeE r1 (tgS t)) [] := {
      good := (G1.addA hD).wipe hv
      kp := Keep.new hD
      lst := ⟨[], upd_same, .nil⟩
      new := hD
      out := hout }
    refine ⟨fun i m H => m = xs.length - i ∧ i ≤ xs.length ∧ ∃ acc rr, loopC (fun x rr => (elt1 t fc fe x rr).wiped (tgS t)) (xs.drop i) acc rr = .ok ys r' ∧ LcAt X.K A0 (wipe σ (tgS t)) Fs D H1 H rr acc,
      ⟨_, rfl, Nat.zero_le _, [], _, hl, L0⟩, ?_⟩
    rintro i m H5 ⟨rfl, hi, acc, rr, hloop, L⟩
    have hS : ∀ a, Sv (A0.add D) Fs a → Sv A0 Fs a ∨ H1 a = none := fun a h => by
      rcases h with (h | rfl) | h
      · exact .inl (.inl h)
      · exact .inr hD
      · exact .inl (.inr h)
    obtain ⟨hgo, hstop⟩ := it i H5 _ hS (L.kp.weak sub_in) L.good.alS
    by_cases hlt : i < xs.length
    · right
      obtain ⟨go, yl⟩ := hgo hlt
      refine ⟨go, fun H => ∃ acc rr, loopC (fun x rr => (elt1 t fc fe x rr).wiped (tgS t)) (xs.drop (i + 1)) acc rr = .ok ys r' ∧ LcAt X.K A0 (wipe σ (tgS t)) Fs D H1 H rr acc, fun H' ⟨acc, rr, h1, h2⟩ => ⟨_, by omega, rfl, hlt, acc, rr, h1, h2⟩, fun x H' hy => ?_⟩
      obtain ⟨kp, d, hd, rd⟩ := yl x H' hy
      have hdr : xs.drop i = d :: xs.drop (i + 1) := by
        rw [List.drop_eq_getElem_cons hlt]
        congr 1
        exact (List.getElem?_eq_some_iff.mp hd).2
      rw [hdr] at hloop
      simp only [loopC] at hloop
      obtain ⟨o, r5, e5, hloop⟩ := bind_ok hloop
      obtain ⟨r6, e6, rfl⟩ := wiped_ok e5
      refine lc_item (fun i hi => hi) hv (L.keep (kf kp) (L.good.keep0 kp)) rd e6 (fun hs => ?_) fun σ' H6 hw' _ L6 => ?_
      · cases o with
        | none => cases hs
        | some y =>
          simp only at hloop
          split at hloop
          · assumption
          · cases hloop
      · have L7 : LcAt X.K A0 (wipe σ (tgS t)) Fs D H1 H6 (wipeE r6 (tgS t)) (acc ++ o.toList) := by
          rw [← hw']
          exact { good := L6.good.wipe hv, kp := L6.kp, lst := L6.lst, new := L6.new, out := L6.out }
        cases o with
        | none => exact ⟨_, _, hloop, by simpa using L7⟩
        | some y =>
          simp only at hloop
          split at hloop
          · exact ⟨_, _, hloop, L7⟩
          · cases hloop
    · left
      have e : i = xs.length := by omega
      subst e
      rw [List.drop_length] at hloop
      simp only [loopC] at hloop
      cases hloop
      refine ⟨hstop (Nat.le_refl _), ?_⟩
      have G5 : Good X.K A0 (wipe σ (tgS t)) H5 r' Fs := L.good.dropA fun a h => hout a (.inl h)
      have Gf := Good.unwipe G1 L.kp hw G5
      obtain ⟨va, e1, e2⟩ := L.lst
      have nS : ¬ Sv A0 Fs D := fun z => G1.alS D z hD
      have e2' : Reps X.K H5 (Sv A0 Fs) va ys := e2.mono fun a h => .inl (h.elim (fun z => .inl (.inl z)) .inr)
      refine h1 (.ref D) H5 (k1.trans L.kp) Gf ⟨.lst (.inl ⟨.inl e1, nS⟩) e2', fun _ ds e => ?_⟩
      cases e
      refine ⟨D, va, rfl, ?_, e1, e2.mono fun a h => .inl (h.elim (fun z => z.elim (fun z => .inl (.inl z)) .inr) fun e => .inl (.inr e))⟩
      cases q : H D with
      | none => rfl
      | some o => exact absurd hD (k1.2 D (by rw [q]; exact fun z => nomatch z))
def compF2 (t : Tg) (fi : Env → Out (List D)) (fc : Env → Out Bool) (t1 : Tg) (fi1 : Env → Out (List D)) (fc1 : Env → Out Bool) (fe : Env → Out D) : Env → Out D := fun r => (fi r).bind fun xs r1 =>
      if okW r1 (tgS t ++ tgS t1) then (loopC2 (fun x acc rr => (match asgG t x rr with
        | none => .bad
        | some r2 => (fc r2).bind fun k r3 => if k then (fi1 r3).bind fun zs r4 =>
            loopC (fun w rq => (elt1 t1 fc1 fe w rq).wiped (tgS t1)) zs acc (wipeE r4 (tgS t1))
          else .ok acc r3 : Out (List D)).wiped (tgS t ++ tgS t1)) xs [] (wipeE r1 (tgS t ++ tgS t1))).noX.bind fun ys r' =>
          .ok (.list ys) (unwipeE r1 r' (tgS t ++ tgS t1)) else .bad
theorem tv_comp2 {t t1 : Tg} {fi fi1 : Env → Out (List D)} {fc fc1 : Env → Out Bool} {fe : Env → Out D} {ke : Nat} {σ : L2.St} {H : Hp} {Q : VK} (h : TEv X.K A0 EA W 1 (compF2 t fi fc t1 fi1 fc1 fe) σ H Q) :
    tLc2 (TIv X.K A0 EA W fi) (TGv X.K t) (TTy X.K EA fc) (TIy X.K EA fi1) (TGv X.K t1) (TTy X.K EA fc1) (TEy X.K EA ke fe) (tgS t ++ tgS t1) (tgS t1) σ H Q := by
  obtain ⟨r, Fs, G, h⟩ := h
  refine ⟨r, Fs, G, h.bind fun xs r1 _ h1 => fun J H1 k1 G1 it => fun D hD => ?_⟩
  generalize hvs : tgS t ++ tgS t1 = vs at h1 ⊢
  have m0 : ∀ i ∈ tgS t, i ∈ vs := fun i hi => by rw [← hvs]; exact List.mem_append_left _ hi
  have m1 : ∀ i ∈ tgS t1, i ∈ vs := fun i hi => by rw [← hvs]; exact List.mem_append_right _ hi
  by_cases hw : okW r1 vs = true
  case neg => rw [if_neg hw] at h1; exact h1.elim
  rw [if_pos hw] at h1
  have hv := okW_no G1 hw
  generalize hf : (fun x acc rr => (match asgG t x rr with
        | none => .bad
        | some r2 => (fc r2).bind fun k r3 => if k then (fi1 r3).bind fun zs r4 =>
            loopC (fun w rq => (elt1 t1 fc1 fe w rq).wiped (tgS t1)) zs acc (wipeE r4 (tgS t1))
          else .ok acc r3 : Out (List PyData)).wiped vs) = f at h1
  cases hl : loopC2 f xs [] (wipeE r1 vs) with
  | exc x r' => simp only [hl, Out.noX, Out.bind] at h1; exact h1.elim
  | bad => simp only [hl, Out.noX, Out.bind] at h1; exact h1.elim
  | ok ys r' =>
    simp only [hl, Out.noX, Out.bind] at h1
    have hout : ∀ a, inF Fs a ∨ A0.p a → a ≠ D := fun a ha e => by
      subst e
      rcases ha with ha | ha
      · obtain ⟨zs, e'⟩ := G1.lstF ha
        rw [hD] at e'; cases e'
      · exact (G1.pal a ha).2 hD
    have L0 : LcAt X.K A0 (wipe σ vs) Fs D H1 (upd H1 D (.lst [])) (wipeE r1 vs) [] := {
      good := (G1.addA hD).wipe hv
      kp := Keep.new hD
      lst := ⟨[], upd_same, .nil⟩
      new := hD
      out := hout }
    refine ⟨fun i m H => m = xs.length - i ∧ i ≤ xs.length ∧ ∃ acc rr, loopC2 f (xs.drop i) acc rr = .ok ys r' ∧ LcAt X.K A0 (wipe σ vs) Fs D H1 H rr acc,
      ⟨_, rfl, Nat.zero_le _, [], _, hl, L0⟩, ?_⟩
    rintro i m H5 ⟨rfl, hi, acc, rr, hloop, L⟩
    have hS : ∀ a, Sv (A0.add D) Fs a → Sv A0 Fs a ∨ H1 a = none := fun a h => by
      rcases h with (h | rfl) | h
      · exact .inl (.inl h)
      · exact .inr hD
      · exact .inl (.inr h)
    obtain ⟨hgo, hstop⟩ := it i H5 _ hS (L.kp.weak sub_in) L.good.alS
    by_cases hlt : i < xs.length
    · right
      obtain ⟨go, yl⟩ := hgo hlt
      refine ⟨go, fun H => ∃ acc rr, loopC2 f (xs.drop (i + 1)) acc rr = .ok ys r' ∧ LcAt X.K A0 (wipe σ vs) Fs D H1 H rr acc, fun H' ⟨acc, rr, h1, h2⟩ => ⟨_, by omega, rfl, hlt, acc, rr, h1, h2⟩, fun x H' hy => ?_⟩
      obtain ⟨kp, d, hd, rd⟩ := yl x H' hy
      have hdr : xs.drop i = d :: xs.drop (i + 1) := by
        rw [List.drop_eq_getElem_cons hlt]
        congr 1
        exact (List.getElem?_eq_some_iff.mp hd).2
      rw [hdr] at hloop
      simp only [loopC2] at hloop
      obtain ⟨acc2, r5, e5, hloop⟩ := bind_ok hloop
      rw [← hf] at e5
      obtain ⟨r6, e6, rfl⟩ := wiped_ok e5
      have L5 := L.keep (kf kp) (L.good.keep0 kp)
      cases ha : asgG t d rr with
      | none => simp [ha] at e6
      | some r2 =>
        simp only [ha] at e6
        obtain ⟨kk, r3, e3, e6⟩ := bind_ok e6
        refine ⟨_, rr, Fs, d, r2, L5.good, rd, ha, fun σ2 G2 h2 l2 => ?_⟩
        rw [clr_same fun i hi => hv i (m0 i hi)] at G2
        have hw2 : wipe σ2 vs = wipe σ vs := by
          rw [← wipe_wipe (l := σ) (vs := vs) (ws := vs) fun _ h => h]
          exact wipe_eq l2 fun i hi => h2 i fun z => hi (m0 i z)
        refine ⟨hw2, _, r2, Fs, G2, ?_⟩
        rw [e3]
        intro H6 k6 G6
        have L6 := L5.keep k6 G6
        -- the outer turn's end
        have fin : ∀ σ' H', wipe σ' vs = wipe σ vs → LcAt X.K A0 σ' Fs D H1 H' r6 acc2 → ∃ acc rr, loopC2 f (xs.drop (i + 1)) acc rr = .ok ys r' ∧ LcAt X.K A0 (wipe σ vs) Fs D H1 H' rr acc := fun σ' H' hw' L' => by
          refine ⟨_, _, hloop, ?_⟩
          rw [← hw']
          exact { good := L'.good.wipe hv, kp := L'.kp, lst := L'.lst, new := L'.new, out := L'.out }
        cases kk with
        | false =>
          rw [if_neg Bool.false_ne_true] at e6 ⊢
          cases e6
          exact fin σ2 H6 hw2 L6
        | true =>
          rw [if_pos rfl] at e6 ⊢
          obtain ⟨zs, r4, e4, e6⟩ := bind_ok e6
          refine ⟨_, r3, Fs, L6.good, ?_⟩
          rw [e4]
          intro J1 H7 k7 G7 it1
          have L7 := L6.keep k7 G7
          have hv1 : ∀ i ∈ tgS t1, ∀ a, Fs[i]? ≠ some (some a) := fun i hi => hv i (m1 i hi)
          have L7' : LcAt X.K A0 (wipe σ2 (tgS t1)) Fs D H1 H7 (wipeE r4 (tgS t1)) acc := { good := L7.good.wipe hv1, kp := L7.kp, lst := L7.lst, new := L7.new, out := L7.out }
          refine ⟨fun j m H => m = zs.length - j ∧ j ≤ zs.length ∧ Keep (fun a => inF Fs a ∨ a = D) H7 H ∧ ∃ acc rr, loopC (fun w rq => (elt1 t1 fc1 fe w rq).wiped (tgS t1)) (zs.drop j) acc rr = .ok acc2 r6 ∧ LcAt X.K A0 (wipe σ2 (tgS t1)) Fs D H1 H rr acc,
            ⟨_, rfl, Nat.zero_le _, Keep.refl, _, _, e6, L7'⟩, ?_⟩
          rintro j m H8 ⟨rfl, hj, k8, acc8, rr8, hloop8, L8⟩
          obtain ⟨hgo1, hstop1⟩ := it1 j H8 _ (fun a h => .inl h) (k8.weak fun a h => h.elim .inr fun e => .inl (.inr e)) L8.good.alS
          by_cases hlt1 : j < zs.length
          · right
            obtain ⟨go1, yl1⟩ := hgo1 hlt1
            refine ⟨go1, fun H => Keep (fun a => inF Fs a ∨ a = D) H7 H ∧ ∃ acc rr, loopC (fun w rq => (elt1 t1 fc1 fe w rq).wiped (tgS t1)) (zs.drop (j + 1)) acc rr = .ok acc2 r6 ∧ LcAt X.K A0 (wipe σ2 (tgS t1)) Fs D H1 H rr acc, fun H' ⟨k9, acc, rr, h1, h2⟩ => ⟨_, by omega, rfl, hlt1, k9, acc, rr, h1, h2⟩, fun x1 H9 hy1 => ?_⟩
            obtain ⟨kp1, d1, hd1, rd1⟩ := yl1 x1 H9 hy1
            have hdr1 : zs.drop j = d1 :: zs.drop (j + 1) := by
              rw [List.drop_eq_getElem_cons hlt1]
              congr 1
              exact (List.getElem?_eq_some_iff.mp hd1).2
            rw [hdr1] at hloop8
            simp only [loopC] at hloop8
            obtain ⟨o, r10, e10, hloop8⟩ := bind_ok hloop8
            obtain ⟨r11, e11, rfl⟩ := wiped_ok e10
            have L9 := L8.keep (kf kp1) (L8.good.keep0 kp1)
            have k79 : Keep (fun a => inF Fs a ∨ a = D) H7 H9 := k8.trans (kf kp1)
            refine lc_item (H0 := H1) (fun i hi => hi) hv1 L9 rd1 e11 (fun hs => ?_) fun σ' H10 hw' k10 L10 => ?_
            · cases o with
              | none => cases hs
              | some y =>
                simp only at hloop8
                split at hloop8
                · assumption
                · cases hloop8
            · have L11 : LcAt X.K A0 (wipe σ2 (tgS t1)) Fs D H1 H10 (wipeE r11 (tgS t1)) (acc8 ++ o.toList) := by
                rw [← hw']
                exact { good := L10.good.wipe hv1, kp := L10.kp, lst := L10.lst, new := L10.new, out := L10.out }
              refine ⟨k79.trans k10, ?_⟩
              cases o with
              | none => exact ⟨_, _, hloop8, by simpa using L11⟩
              | some y =>
                simp only at hloop8
                split at hloop8
                · exact ⟨_, _, hloop8, L11⟩
                · cases hloop8
          · left
            have e : j = zs.length := by omega
            subst e
            rw [List.drop_length] at hloop8
            simp only [loopC] at hloop8
            cases hloop8
            refine ⟨hstop1 (Nat.le_refl _), fin (wipe σ2 (tgS t1)) H8 ?_ L8⟩
            rw [← hw2]
            exact wipe_wipe m1
    · left
      have e : i = xs.length := by omega
      subst e
      rw [List.drop_length] at hloop
      simp only [loopC2] at hloop
      cases hloop
      refine ⟨hstop (Nat.le_refl _), ?_⟩
      have G5 : Good X.K A0 (wipe σ vs) H5 r' Fs := L.good.dropA fun a h => hout a (.inl h)
      have Gf := Good.unwipe G1 L.kp hw G5
      obtain ⟨va, e1, e2⟩ := L.lst
      have nS : ¬ Sv A0 Fs D := fun z => G1.alS D z hD
      have e2' : Reps X.K H5 (Sv A0 Fs) va ys := e2.mono fun a h => .inl (h.elim (fun z => .inl (.inl z)) .inr)
      refine h1 (.ref D) H5 (k1.trans L.kp) Gf ⟨.lst (.inl ⟨.inl e1, nS⟩) e2', fun _ ds e => ?_⟩
      cases e
      refine ⟨D, va, rfl, ?_, e1, e2.mono fun a h => .inl (h.elim (fun z => z.elim (fun z => .inl (.inl z)) .inr) fun e => .inl (.inr e))⟩
      cases q : H D with
      | none => rfl
      | some o => exact absurd hD (k1.2 D (by rw [q]; exact fun z => nomatch z))
end
end Cw
end

section
namespace Cw
open PySem PySem.Spec PyProof.Rows L2

theorem nodup_inj {α : Type} {a : α} : ∀ {l : List α} {i j : Nat}, l.Nodup → l[i]? = some a → l[j]? = some a → i = j
  | [], _, _, _, h, _ => by simp at h
  | b :: l, 0, 0, _, _, _ => rfl
  | b :: l, 0, j + 1, hn, h1, h2 => by
    simp only [List.getElem?_cons_zero, Option.some.injEq, List.getElem?_cons_succ] at h1 h2
    subst h1
    exact absurd (List.mem_of_getElem? h2) (List.nodup_cons.mp hn).1
  | b :: l, i + 1, 0, hn, h1, h2 => by
    simp only [List.getElem?_cons_zero, Option.some.injEq, List.getElem?_cons_succ] at h1 h2
    subst h2
    exact absurd (List.mem_of_getElem? h1) (List.nodup_cons.mp hn).1
  | b :: l, i + 1, j + 1, hn, h1, h2 => by
    have e := nodup_inj (l := l) (i := i) (j := j) (List.nodup_cons.mp hn).2 (by simpa using h1) (by simpa using h2)
    rw [e]
def addrOf : Option V → Option Addr
  | some (.ref a) => some a
  | _ => none
/-- the callee's own places: the lists that it is handed to change -/
def fsOf (fn : Fn) (vs : List V) : List (Option Addr) := (List.range fn.ns).map fun i => if fn.io.contains i then addrOf vs[i]? else none
/-- the changed lists behind a call -/
def OutsOk (K : Fr) (H : Hp) (S : Addr → Prop) (fn : Fn) (vs : List V) (os : List D) : Prop :=
  ∀ (j i : Nat), fn.io[j]? = some i → ∃ a d, vs[i]? = some (.ref a) ∧ os[j]? = some d ∧ OwnL K H S a d
def spF (K : Fr) (EA : EAt) (call : Nat → List D → OutC) (f : Nat) (fn : Fn) : Sp := fun vs H Q E => ∃ (S : Addr → Prop) (ds : List D), vs.length = fn.np ∧ ds.length = fn.np ∧
  Good K ⟨S, fun _ => False⟩ (vs.map some ++ List.replicate (fn.ns - vs.length) none) H (startE fn ds) (fsOf fn vs) ∧ (match call f ds with
  | .ok d os => ∀ v H', Keep (inF (fsOf fn vs)) H H' → ResOk K H H' S fn.fresh v d → OutsOk K H' S fn vs os → os.length = fn.io.length → Q v H'
  | .exc x os => ∀ cls dx H', Keep (inF (fsOf fn vs)) H H' → OutsOk K H' S fn vs os → os.length = fn.io.length → EA x cls dx H' → E cls dx H'
  | .bad => False)
/-- arguments as they stand ahead of the call -/
def ArgsOk (K : Fr) (H : Hp) (S : Addr → Prop) (Fs : List (Option Addr)) (io : List Nat) : Nat → List ME → List V → List D → Prop
  | _, [], [], [] => True
  | n, e :: es, v :: vs, d :: ds => (if io.contains n = true then ∃ j a, e = .var j ∧ v = .ref a ∧ Fs[j]? = some (some a) ∧ OwnL K H S a d else Rep K H S v d) ∧ ArgsOk K H S Fs io (n + 1) es vs ds
  | _, _, _, _ => False
theorem ArgsOk.len {K : Fr} {H : Hp} {S : Addr → Prop} {Fs : List (Option Addr)} {io : List Nat} : ∀ {es : List ME} {vs : List V} {ds : List D} {n : Nat}, ArgsOk K H S Fs io n es vs ds → vs.length = es.length ∧ ds.length = es.length
  | [], [], [], _, _ => ⟨rfl, rfl⟩
  | e :: es, v :: vs, d :: ds, n, h => by
    obtain ⟨h1, h2⟩ := ArgsOk.len h.2
    exact ⟨by simp [h1], by simp [h2]⟩
  | [], _ :: _, _, _, h => by simp [ArgsOk] at h
  | [], [], _ :: _, _, h => by simp [ArgsOk] at h
  | _ :: _, [], _, _, h => by simp [ArgsOk] at h
  | _ :: _, _ :: _, [], _, h => by simp [ArgsOk] at h
theorem ArgsOk.get {K : Fr} {H : Hp} {S : Addr → Prop} {Fs : List (Option Addr)} {io : List Nat} : ∀ {es : List ME} {vs : List V} {ds : List D} {n i : Nat} {v : V} {d : D}, ArgsOk K H S Fs io n es vs ds → vs[i]? = some v → ds[i]? = some d →
    if io.contains (n + i) = true then ∃ j a, es[i]? = some (.var j) ∧ v = .ref a ∧ Fs[j]? = some (some a) ∧ OwnL K H S a d else Rep K H S v d
  | e :: es, w :: vs, c :: ds, n, 0, v, d, h, hv, hd => by
    simp only [List.getElem?_cons_zero, Option.some.injEq] at hv hd
    subst hv hd
    have h1 := h.1
    by_cases hc : io.contains n = true
    · rw [if_pos hc] at h1
      rw [if_pos (by simpa using hc)]
      obtain ⟨j, a, rfl, h2, h3, h4⟩ := h1
      exact ⟨j, a, rfl, h2, h3, h4⟩
    · rw [if_neg hc] at h1
      rw [if_neg (by simpa using hc)]
      exact h1
  | e :: es, w :: vs, c :: ds, n, i + 1, v, d, h, hv, hd => by
    have := ArgsOk.get (i := i) h.2 (by simpa using hv) (by simpa using hd)
    rw [show n + 1 + i = n + (i + 1) by omega] at this
    exact this
  | [], [], [], _, _, _, _, _, hv, _ => by simp at hv
  | [], _ :: _, _, _, _, _, _, h, _, _ => by simp [ArgsOk] at h
  | [], [], _ :: _, _, _, _, _, h, _, _ => by simp [ArgsOk] at h
  | _ :: _, [], _, _, _, _, _, h, _, _ => by simp [ArgsOk] at h
  | _ :: _, _ :: _, [], _, _, _, _, h, _, _ => by simp [ArgsOk] at h
section
variable {X : Cx} {A0 : Prot} {EA : EAt} {W : WX} {k ka kb kc : Nat} {a b c e : Expr} {es : List Expr} {fa fb fc : Env → Out D} {pos : Pos}
def TAio (K : Fr) (A0 : Prot) (EA : EAt) (W : WX) (io : List Nat) (n : Nat) (ms : List ME) (fs : Env → Out (List D)) : TA := fun σ H Q => ∃ r Fs, Good K A0 σ H r Fs ∧ Pst K A0 EA W σ Fs H (fs r) fun ds r' _ =>
  ∀ vs H', Keep (inF Fs) H H' → Good K A0 σ H' r' Fs → ArgsOk K H' (Sv A0 Fs) Fs io n ms vs ds → Q vs H'
theorem tio_nil {io : List Nat} {n : Nat} : PA X [] (TAio X.K A0 EA W io n [] fun r => .ok [] r) := PA.imp pa_nil fun σ H Q ⟨r, Fs, G, h⟩ => h [] H Keep.refl G trivial
theorem tio_cons {io : List Nat} {n : Nat} {m : ME} {ms : List ME} {fs : Env → Out (List D)} (hn : io.contains n = false) (ha : PE X e (TEv X.K A0 EA W k fa)) (hr : PA X es (TAio X.K A0 EA W io (n + 1) ms fs)) (hs : notStar e = true) :
    PA X (e :: es) (TAio X.K A0 EA W io n (m :: ms) fun r => (fa r).bind fun d r1 => (fs r1).bind fun ds r2 => .ok (d :: ds) r2) := by
  refine PA.imp (pa_cons ha hr (star_cons hs)) fun σ H Q ⟨r, Fs, G, h⟩ => ⟨r, Fs, G, h.bind fun x r1 _ h1 => fun v1 H1 k1 G1 q1 => ⟨r1, Fs, G1, ?_⟩⟩
  refine (h1.bind (R' := fun ds r2 _ => ∀ vs H', Keep (inF Fs) H H' → Good X.K A0 σ H' r2 Fs → ArgsOk X.K H' (Sv A0 Fs) Fs io n (m :: ms) vs (x :: ds) → Q vs H') fun ds r2 _ h2 => h2).later k1 fun ds r2 h3 => fun vs H2 k2 G2 q2 => ?_
  exact h3 (v1 :: vs) H2 (k1.trans k2) G2 ⟨by rw [if_neg (by rw [hn]; exact Bool.false_ne_true)]; exact q1.1.keep k2 sub_in, q2⟩
theorem getM_at {σ : L2.St} {H : Hp} {r : Env} {Fs : List (Option Addr)} (G : Good X.K A0 σ H r Fs) {i : Nat} {d : D} (h : getM r i = some d) :
    ∃ p, σ[i]? = some (some (.ref p)) ∧ Fs[i]? = some (some p) ∧ OwnL X.K H (Sv A0 Fs) p d := by
  unfold getM at h
  split at h
  · rename_i d' e
    cases h
    obtain ⟨_, p, h1, h2, _, q⟩ := G.own i _ _ e
    exact ⟨p, h2, h1, q⟩
  · rename_i d' e
    cases h
    obtain ⟨p, h1, h2, _, q⟩ := G.chg i _ e
    exact ⟨p, h2, h1, q⟩
  · cases h
theorem tio_io {io : List Nat} {n j : Nat} {ms : List ME} {fs : Env → Out (List D)} {x : Str} (hn : io.contains n = true) (hN : X.N[j]? = some x) (hv : Vis X.env.scope x) (hd : (x == ("__debug__" : Str)) = false) (hcd : (x == ("__classdict__" : Str)) = false)
    (hr : PA X es (TAio X.K A0 EA W io (n + 1) ms fs)) :
    PA X (.Name x pos :: es) (TAio X.K A0 EA W io n (.var j :: ms) fun r => (lift (getM r j) r).bind fun _ r0 => (fs r0).bind fun ds r2 => match getM r2 j with
        | some d => .ok (d :: ds) r2
        | none => .bad) := by
  refine PA.imp (pa_cons (pe_var hN hv hd hcd) hr rfl) fun σ H Q ⟨r, Fs, G, h⟩ => ?_
  obtain ⟨d0, hd0, h⟩ := (h.bind (R' := fun _ r0 _ => Pst X.K A0 EA W σ Fs H ((fs r0).bind fun ds r2 => match getM r2 j with
        | some d => .ok (d :: ds) r2
        | none => .bad) fun ds r' _ => ∀ vs H', Keep (inF Fs) H H' → Good X.K A0 σ H' r' Fs → ArgsOk X.K H' (Sv A0 Fs) Fs io n (.var j :: ms) vs ds → Q vs H') fun _ _ _ h => h).lift
  obtain ⟨p, hσ, hF, _⟩ := getM_at G hd0
  refine ⟨_, hσ, r, Fs, G, h.bind fun ds r2 _ h1 => fun vs H2 k2 G2 q2 => ?_⟩
  cases e : getM r2 j with
  | none => rw [e] at h1; exact h1.elim
  | some d =>
    rw [e] at h1
    obtain ⟨p', hσ', hF', o'⟩ := getM_at G2 e
    rw [hF] at hF'
    cases hF'
    exact h1 _ H2 k2 G2 ⟨by rw [if_pos hn]; exact ⟨j, p, rfl, rfl, hF, o'⟩, q2⟩
theorem startE_len (fn : Fn) (ds : List D) (h : ds.length ≤ fn.ns) : (startE fn ds).length = fn.ns := by
  simp [startE]; omega
theorem startE_get (fn : Fn) (ds : List D) (i : Nat) : (startE fn ds)[i]? = if h : i < ds.length then some (if fn.io.contains i then .mut ds[i] else .val ds[i]) else if i < fn.ns then some .non else none := by
  unfold startE
  by_cases h : i < ds.length
  · rw [List.getElem?_append_left (by simp; exact h)]
    simp [h, List.getElem?_zip_eq_some, List.zip, List.getElem?_zipWith, List.getElem?_map]
  · rw [List.getElem?_append_right (by simp; omega)]
    simp only [List.length_map, List.length_zip, List.length_range, Nat.min_self, h, dite_false]
    rw [List.getElem?_replicate]
    by_cases h2 : i < fn.ns
    · rw [if_pos h2, if_pos (by omega)]
    · rw [if_neg h2, if_neg (by omega)]
theorem fsOf_get (fn : Fn) (vs : List V) (i : Nat) : (fsOf fn vs)[i]? = if i < fn.ns then some (if fn.io.contains i then addrOf vs[i]? else none) else none := by
  unfold fsOf
  by_cases h : i < fn.ns
  · simp [h]
  · simp [h]
theorem sig_get (vs : List V) (n i : Nat) : (vs.map some ++ List.replicate (n - vs.length) none)[i]? = if h : i < vs.length then some (some vs[i]) else if i < n then some none else none := by
  by_cases h : i < vs.length
  · rw [List.getElem?_append_left (by simpa using h)]
    simp [h]
  · rw [List.getElem?_append_right (by simp; omega)]
    simp only [List.length_map, h, dite_false]
    rw [List.getElem?_replicate]
    by_cases h2 : i < n
    · rw [if_pos h2, if_pos (by omega)]
    · rw [if_neg h2, if_neg (by omega)]
theorem ioSlots_get : ∀ {io : List Nat} {es : List ME} {js : List Nat}, ioSlots io es = some js → js.length = io.length ∧ ∀ (k i : Nat), io[k]? = some i → ∃ j, js[k]? = some j ∧ es[i]? = some (.var j)
  | [], es, js, h => by
    simp only [ioSlots, Option.some.injEq] at h
    subst h
    exact ⟨rfl, fun k i e => by simp at e⟩
  | i :: is, es, js, h => by
    simp only [ioSlots] at h
    split at h
    · rename_i j e
      obtain ⟨js', h1, rfl⟩ := Option.map_eq_some_iff.mp h
      obtain ⟨h2, h3⟩ := ioSlots_get h1
      refine ⟨by simp [h2], fun k i' e' => ?_⟩
      cases k with
      | zero => simp at e'; subst e'; exact ⟨j, rfl, e⟩
      | succ k => simpa using h3 k i' (by simpa using e')
    · cases h
/-- the callee's frame is good -/
theorem callee_good {σ : L2.St} {H : Hp} {r : Env} {Fs : List (Option Addr)} {K : Fr} (G : Good K A0 σ H r Fs) {fn : Fn} {ms : List ME} {vs : List V} {ds : List D} {js : List Nat} (hA : ArgsOk K H (Sv A0 Fs) Fs fn.io 0 ms vs ds)
    (hj : ioSlots fn.io ms = some js) (hnd : js.Nodup) (hl : ms.length = fn.np) (hns : fn.np ≤ fn.ns) :
    Good K ⟨Sv A0 Fs, fun _ => False⟩ (vs.map some ++ List.replicate (fn.ns - vs.length) none) H (startE fn ds) (fsOf fn vs) ∧
      (∀ a, inF (fsOf fn vs) a → inF Fs a) := by
  obtain ⟨l1, l2⟩ := hA.len
  obtain ⟨hjl, hjs⟩ := ioSlots_get hj
  have hvl : vs.length ≤ fn.ns := by omega
  -- an address of the callee
  have addr : ∀ {i : Nat} {a : Addr}, (fsOf fn vs)[i]? = some (some a) → ∃ j d, fn.io.contains i = true ∧ vs[i]? = some (.ref a) ∧ ds[i]? = some d ∧ ms[i]? = some (.var j) ∧ Fs[j]? = some (some a) ∧ OwnL K H (Sv A0 Fs) a d := by
    intro i a h
    rw [fsOf_get] at h
    split at h
    · simp only [Option.some.injEq] at h
      split at h
      · rename_i hc
        unfold addrOf at h
        split at h
        · rename_i a' e
          cases h
          have hi : i < vs.length := (List.getElem?_eq_some_iff.mp e).1
          have hd : ds[i]? = some (ds[i]'(by omega)) := List.getElem?_eq_getElem _
          have g := hA.get e hd
          rw [if_pos (by simpa using hc)] at g
          obtain ⟨j, a2, h1, h2, h3, h4⟩ := g
          cases h2
          exact ⟨j, _, hc, e, hd, h1, h3, h4⟩
        · cases h
      · cases h
    · cases h
  have sub : ∀ a, inF (fsOf fn vs) a → inF Fs a := fun a h => by
    obtain ⟨i, hi⟩ := List.mem_iff_getElem?.mp h
    obtain ⟨j, d, _, _, _, _, h1, _⟩ := addr hi
    exact List.mem_of_getElem? h1
  have sub2 : ∀ a, Sv ⟨Sv A0 Fs, fun _ => False⟩ (fsOf fn vs) a → Sv A0 Fs a := fun a h => h.elim id fun z => .inr (sub a z)
  refine ⟨⟨?_, ?_, fun i d e => ?_, fun i k d e => ?_, fun i d e => ?_, fun i d e => ?_, fun a h => h.elim, fun i j a h1 h2 => ?_, fun i a h => ?_, G.alS⟩, sub⟩
  · rw [startE_len fn ds (by omega)]; simp [fsOf]
  · rw [startE_len fn ds (by omega)]; simp; omega
  · rw [startE_get] at e
    split at e
    · rename_i hi
      simp only [Option.some.injEq] at e
      split at e
      · cases e
      · rename_i hc
        cases e
        have hi' : i < vs.length := by omega
        have g := hA.get (List.getElem?_eq_getElem hi') (List.getElem?_eq_getElem hi)
        rw [if_neg (by simpa using hc)] at g
        exact ⟨vs[i], by rw [sig_get, dif_pos hi'], g.mono fun a z => .inl (sub2 a z)⟩
    · split at e <;> cases e
  · rw [startE_get] at e
    split at e
    · simp only [Option.some.injEq] at e
      split at e <;> cases e
    · split at e <;> cases e
  · rw [startE_get] at e
    split at e
    · rename_i hi
      simp only [Option.some.injEq] at e
      split at e
      · rename_i hc
        cases e
        have hi' : i < vs.length := by omega
        have g := hA.get (List.getElem?_eq_getElem hi') (List.getElem?_eq_getElem hi)
        rw [if_pos (by simpa using hc)] at g
        obtain ⟨j, a, h1, h2, h3, h4⟩ := g
        refine ⟨a, ?_, by rw [sig_get, dif_pos hi', h2], .inr (List.mem_of_getElem? h3), h4.mono sub2⟩
        rw [fsOf_get, if_pos (by omega), if_pos hc, List.getElem?_eq_getElem hi', h2]
        rfl
      · cases e
    · split at e <;> cases e
  · rw [startE_get] at e
    split at e
    · simp only [Option.some.injEq] at e
      split at e <;> cases e
    · split at e <;> cases e
  · obtain ⟨p, d, hc, _, _, h3, h4, _⟩ := addr h1
    obtain ⟨q, d', hc', _, _, h5, h6, _⟩ := addr h2
    have e := G.inj _ _ _ h4 h6
    subst e
    obtain ⟨ki, hki⟩ := List.mem_iff_getElem?.mp (List.contains_iff_mem.mp hc)
    obtain ⟨kj, hkj⟩ := List.mem_iff_getElem?.mp (List.contains_iff_mem.mp hc')
    obtain ⟨j1, e1, e2⟩ := hjs ki i hki
    obtain ⟨j2, e3, e4⟩ := hjs kj j hkj
    rw [h3] at e2; cases e2
    rw [h5] at e4; cases e4
    have hk : ki = kj := by
      have z1 := (List.getElem?_eq_some_iff.mp e1)
      have z2 := (List.getElem?_eq_some_iff.mp e3)
      obtain ⟨b1, c1⟩ := z1
      obtain ⟨b2, c2⟩ := z2
      exact nodup_inj hnd e1 e3
    subst hk
    rw [hki] at hkj
    cases hkj
    rfl
  · obtain ⟨p, d, hc, h1, h2, _⟩ := addr h
    right
    refine ⟨d, ?_⟩
    obtain ⟨hi, rfl⟩ := List.getElem?_eq_some_iff.mp h2
    rw [startE_get, dif_pos hi, if_pos hc]
theorem putM_get {r : Env} {j : Nat} {d : D} {i : Nat} : (putM r j d)[i]? = if i = j then (match r[i]? with
    | some (.own 1 _) => some (.own 1 d)
    | some (.mut _) => some (.mut d)
    | o => o) else r[i]? := by
  unfold putM
  by_cases e : i = j
  · subst e
    rw [if_pos rfl]
    split
    · rename_i d' h
      have hi := (List.getElem?_eq_some_iff.mp h).1
      first
        | (rw [List.getElem?_set_self hi, h]; done)
        | (rw [List.getElem?_set_self hi, h]; rfl)
        | exact List.getElem?_set_self hi
    · rename_i d' h
      have hi := (List.getElem?_eq_some_iff.mp h).1
      first
        | (rw [List.getElem?_set_self hi, h]; done)
        | (rw [List.getElem?_set_self hi, h]; rfl)
        | exact List.getElem?_set_self hi
    · first
        | rfl
        | (rename_i h1 h2
           split
           · rename_i h; exact absurd h (h1 _)
           · rename_i h; exact absurd h (h2 _)
           · rfl)
  · rw [if_neg e]
    split
    · rw [List.getElem?_set_ne (fun z => e z.symm)]
    · rw [List.getElem?_set_ne (fun z => e z.symm)]
    · rfl
/-- one changed list back in its slot -/
theorem Good.put {σ : L2.St} {H H' : Hp} {r : Env} {Fs : List (Option Addr)} {K : Fr} (G : Good K A0 σ H r Fs) {j : Nat} {p : Addr} {d : D} (hF : Fs[j]? = some (some p)) (kp : Keep (fun a => a = p) H H') (o : OwnL K H' (Sv A0 Fs) p d) : Good K A0 σ H' (putM r j d) Fs := by
  have hS : ∀ a, a = p → Sv A0 Fs a := fun a e => by rw [e]; exact .inr (List.mem_of_getElem? hF)
  have nP : ∀ a, A0.p a → ¬ a = p := fun a h e => (G.pal a h).1 (e ▸ List.mem_of_getElem? hF)
  refine ⟨?_, ?_, fun i e h => ?_, fun i k e h => ?_, fun i e h => ?_, fun i e h => ?_, fun a h => ⟨(G.pal a h).1, kp.2 a (G.pal a h).2⟩, G.inj, fun i a h => ?_, fun a h => kp.2 a (G.al a h)⟩
  · rw [G.len]; unfold putM; split <;> simp
  · rw [G.slen]; unfold putM; split <;> simp
  · rw [putM_get] at h
    split at h
    · split at h <;> first | cases h | skip
      rename_i h1 h2
      obtain ⟨v, q1, q2⟩ := G.val i e h
      exact ⟨v, q1, q2.keep kp hS⟩
    · obtain ⟨v, q1, q2⟩ := G.val i e h
      exact ⟨v, q1, q2.keep kp hS⟩
  · rw [putM_get] at h
    split at h
    · rename_i hij
      subst hij
      split at h
      · rename_i d' h'
        cases h
        obtain ⟨_, a, q1, q2, q3, q4⟩ := G.own i _ _ h'
        rw [hF] at q1; cases q1
        exact ⟨rfl, p, hF, q2, q3, o⟩
      · cases h
      · rename_i h1 h2
        obtain ⟨ek, _⟩ := G.own i k e h
        subst ek
        exact absurd h (h1 _)
    · rename_i hij
      obtain ⟨ek, a, q1, q2, q3, q4⟩ := G.own i k e h
      refine ⟨ek, a, q1, q2, q3, q4.keep kp hS fun z => hij ?_⟩
      subst z
      exact G.inj i j _ q1 hF
  · rw [putM_get] at h
    split at h
    · rename_i hij
      subst hij
      split at h
      · cases h
      · rename_i d' h'
        cases h
        obtain ⟨a, q1, q2, q3, q4⟩ := G.chg i _ h'
        rw [hF] at q1; cases q1
        exact ⟨p, hF, q2, q3, o⟩
      · rename_i h1 h2
        exact absurd h (h2 _)
    · rename_i hij
      obtain ⟨a, q1, q2, q3, q4⟩ := G.chg i e h
      refine ⟨a, q1, q2, q3, q4.keep kp hS fun z => hij ?_⟩
      subst z
      exact G.inj i j _ q1 hF
  · have hr : r[i]? = some (.prt e) := by
      rw [putM_get] at h
      split at h
      · split at h <;> first | cases h | exact h
      · exact h
    obtain ⟨a, q1, q2, q3⟩ := G.prt i e hr
    exact ⟨a, q1, q2, q3.keep kp hS (nP a q2)⟩
  · rw [putM_get]
    by_cases e : i = j
    · subst e
      rw [if_pos rfl]
      rcases G.emp i a h with ⟨d', q⟩ | ⟨d', q⟩
      · rw [q]; exact .inl ⟨d, rfl⟩
      · rw [q]; exact .inr ⟨d, rfl⟩
    · rw [if_neg e]
      exact G.emp i a h
/-- several, at one blow -/
theorem putMs_len : ∀ {js : List Nat} {ds : List D} {r : Env}, (putMs r js ds).length = r.length
  | [], _, _ => rfl
  | j :: js, [], _ => rfl
  | j :: js, d :: ds, r => by
    show (putMs (putM r j d) js ds).length = _
    rw [putMs_len]
    unfold putM; split <;> simp
theorem putMs_get : ∀ {js : List Nat} {ds : List D} {r : Env} {i : Nat}, js.Nodup → ds.length = js.length →
    (i ∉ js → (putMs r js ds)[i]? = r[i]?) ∧ ∀ (k : Nat), js[k]? = some i → ∃ d, ds[k]? = some d ∧ (putMs r js ds)[i]? = (putM r i d)[i]?
  | [], ds, r, i, _, _ => ⟨fun _ => rfl, fun k h => by simp at h⟩
  | j :: js, [], r, i, _, h => by simp at h
  | j :: js, d :: ds, r, i, hn, hl => by
    obtain ⟨n1, n2⟩ := List.nodup_cons.mp hn
    obtain ⟨g1, g2⟩ := putMs_get (js := js) (ds := ds) (r := putM r j d) (i := i) n2 (by simpa using hl)
    have same : ∀ d', i ≠ j → (putM (putM r j d) i d')[i]? = (putM r i d')[i]? := fun d' e => by
      rw [putM_get, if_pos rfl, putM_get, if_neg e, putM_get, if_pos rfl]
    refine ⟨fun hi => ?_, fun k hk => ?_⟩
    · simp only [List.mem_cons, not_or] at hi
      show (putMs (putM r j d) js ds)[i]? = _
      rw [g1 hi.2, putM_get, if_neg hi.1]
    · cases k with
      | zero =>
        simp only [List.getElem?_cons_zero, Option.some.injEq] at hk
        subst hk
        exact ⟨d, rfl, g1 n1⟩
      | succ k =>
        simp only [List.getElem?_cons_succ] at hk
        obtain ⟨d', e1, e2⟩ := g2 k hk
        have ne : i ≠ j := fun e => n1 (e ▸ List.mem_of_getElem? hk)
        exact ⟨d', by simpa using e1, e2.trans (same d' ne)⟩
theorem Good.puts {σ : L2.St} {H H' : Hp} {r : Env} {Fs : List (Option Addr)} {K : Fr} (G : Good K A0 σ H r Fs) {js : List Nat} {os : List D} {P : Addr → Prop} (hn : js.Nodup) (hl : os.length = js.length)
    (kp : Keep P H H') (hP : ∀ a, P a → ∃ j, j ∈ js ∧ Fs[j]? = some (some a))
    (ho : ∀ (k j : Nat) d, js[k]? = some j → os[k]? = some d → ∃ a, Fs[j]? = some (some a) ∧ OwnL K H' (Sv A0 Fs) a d) : Good K A0 σ H' (putMs r js os) Fs := by
  have hS : ∀ a, P a → Sv A0 Fs a := fun a e => by
    obtain ⟨j, _, h⟩ := hP a e
    exact .inr (List.mem_of_getElem? h)
  have at_ : ∀ i, (i ∉ js ∧ (putMs r js os)[i]? = r[i]?) ∨ ∃ k d a, js[k]? = some i ∧ os[k]? = some d ∧ (putMs r js os)[i]? = (putM r i d)[i]? ∧ Fs[i]? = some (some a) ∧ OwnL K H' (Sv A0 Fs) a d := fun i => by
    obtain ⟨g1, g2⟩ := putMs_get (r := r) (i := i) hn hl
    by_cases hi : i ∈ js
    · obtain ⟨k, hk⟩ := List.mem_iff_getElem?.mp hi
      obtain ⟨d, e1, e2⟩ := g2 k hk
      obtain ⟨a, h1, h2⟩ := ho k i d hk e1
      exact .inr ⟨k, d, a, hk, e1, e2, h1, h2⟩
    · exact .inl ⟨hi, g1 hi⟩
  have nP : ∀ {i : Nat} {a : Addr}, i ∉ js → Fs[i]? = some (some a) → ¬ P a := fun {i a} hi hF z => by
    obtain ⟨j, hj, h⟩ := hP a z
    exact hi (G.inj i j a hF h ▸ hj)
  refine ⟨?_, ?_, fun i e h => ?_, fun i k e h => ?_, fun i e h => ?_, fun i e h => ?_, fun a h => ⟨(G.pal a h).1, kp.2 a (G.pal a h).2⟩, G.inj, fun i a h => ?_, fun a h => kp.2 a (G.al a h)⟩
  · rw [G.len, putMs_len]
  · rw [G.slen, putMs_len]
  · have hr : r[i]? = some (.val e) := by
      rcases at_ i with ⟨_, q⟩ | ⟨k, d, a, _, _, q, _⟩
      · rw [← q]; exact h
      · rw [q, putM_get, if_pos rfl] at h
        split at h <;> first | cases h | exact h
    obtain ⟨v, q1, q2⟩ := G.val i e hr
    exact ⟨v, q1, q2.keep kp hS⟩
  · rcases at_ i with ⟨hi, q⟩ | ⟨k', d, a, _, _, q, hF, o⟩
    · rw [q] at h
      obtain ⟨ek, a, q1, q2, q3, q4⟩ := G.own i k e h
      exact ⟨ek, a, q1, q2, q3, q4.keep kp hS (nP hi q1)⟩
    · rw [q, putM_get, if_pos rfl] at h
      split at h
      · rename_i d' h'
        cases h
        obtain ⟨_, a', q1, q2, q3, q4⟩ := G.own i _ _ h'
        rw [hF] at q1; cases q1
        exact ⟨rfl, a, hF, q2, q3, o⟩
      · cases h
      · rename_i h1 h2
        obtain ⟨ek, _⟩ := G.own i k e h
        subst ek
        exact absurd h (h1 _)
  · rcases at_ i with ⟨hi, q⟩ | ⟨k', d, a, _, _, q, hF, o⟩
    · rw [q] at h
      obtain ⟨a, q1, q2, q3, q4⟩ := G.chg i e h
      exact ⟨a, q1, q2, q3, q4.keep kp hS (nP hi q1)⟩
    · rw [q, putM_get, if_pos rfl] at h
      split at h
      · cases h
      · rename_i d' h'
        cases h
        obtain ⟨a', q1, q2, q3, q4⟩ := G.chg i _ h'
        rw [hF] at q1; cases q1
        exact ⟨a, hF, q2, q3, o⟩
      · rename_i h1 h2
        exact absurd h (h2 _)
  · have hr : r[i]? = some (.prt e) := by
      rcases at_ i with ⟨_, q⟩ | ⟨k, d, a, _, _, q, _⟩
      · rw [← q]; exact h
      · rw [q, putM_get, if_pos rfl] at h
        split at h <;> first | cases h | exact h
    obtain ⟨a, q1, q2, q3⟩ := G.prt i e hr
    refine ⟨a, q1, q2, q3.keep kp hS fun z => ?_⟩
    obtain ⟨j, _, hj⟩ := hP a z
    exact (G.pal a q2).1 (List.mem_of_getElem? hj)
  · rcases at_ i with ⟨hi, q⟩ | ⟨k', d, a', _, _, q, hF, o⟩
    · rw [q]; exact G.emp i a h
    · rw [q, putM_get, if_pos rfl]
      rcases G.emp i a h with ⟨d', q⟩ | ⟨d', q⟩
      · rw [q]; exact .inl ⟨d, rfl⟩
      · rw [q]; exact .inr ⟨d, rfl⟩
/-- the callee's changed lists, in the caller's frame -/
theorem outs_put {σ : L2.St} {H H' : Hp} {r : Env} {Fs : List (Option Addr)} {K : Fr} (G : Good K A0 σ H r Fs) {fn : Fn} {ms : List ME} {vs : List V} {ds os : List D} {js : List Nat} (hA : ArgsOk K H (Sv A0 Fs) Fs fn.io 0 ms vs ds)
    (hj : ioSlots fn.io ms = some js) (hnd : js.Nodup) (hl : ms.length = fn.np) (hns : fn.np ≤ fn.ns) (kp : Keep (inF (fsOf fn vs)) H H') (ho : OutsOk K H' (Sv A0 Fs) fn vs os) (hol : os.length = fn.io.length) : Good K A0 σ H' (putMs r js os) Fs := by
  obtain ⟨l1, l2⟩ := hA.len
  obtain ⟨hjl, hjs⟩ := ioSlots_get hj
  refine G.puts hnd (by omega) kp (fun a ha => ?_) (fun k j d hk hd => ?_)
  · obtain ⟨i, hi⟩ := List.mem_iff_getElem?.mp ha
    rw [fsOf_get] at hi
    split at hi
    · simp only [Option.some.injEq] at hi
      split at hi
      · rename_i hc
        unfold addrOf at hi
        split at hi
        · rename_i a' e
          cases hi
          have hi' : i < vs.length := (List.getElem?_eq_some_iff.mp e).1
          have g := hA.get e (List.getElem?_eq_getElem (show i < ds.length by omega))
          rw [if_pos (by simpa using hc)] at g
          obtain ⟨j, a2, h1, h2, h3, h4⟩ := g
          cases h2
          obtain ⟨ki, hki⟩ := List.mem_iff_getElem?.mp (List.contains_iff_mem.mp hc)
          obtain ⟨j1, e1, e2⟩ := hjs ki i hki
          rw [h1] at e2; cases e2
          exact ⟨j, List.mem_of_getElem? e1, h3⟩
        · cases hi
      · cases hi
    · cases hi
  · have hk' : k < fn.io.length := by rw [← hjl]; exact (List.getElem?_eq_some_iff.mp hk).1
    have hio : fn.io[k]? = some (fn.io[k]) := List.getElem?_eq_getElem hk'
    obtain ⟨j1, e1, e2⟩ := hjs k _ hio
    rw [hk] at e1; cases e1
    obtain ⟨a, d', h1, h2, h3⟩ := ho k _ hio
    rw [hd] at h2; cases h2
    have hi' : fn.io[k] < vs.length := (List.getElem?_eq_some_iff.mp h1).1
    have g := hA.get h1 (List.getElem?_eq_getElem (show fn.io[k] < ds.length by omega))
    rw [if_pos (by simp)] at g
    obtain ⟨j2, a2, q1, q2, q3, q4⟩ := g
    cases q2
    rw [e2] at q1; cases q1
    exact ⟨a, q3, h3⟩
/-- a call -/
theorem te_call {call : Nat → List D → OutC} {f k' : Nat} {fn : Fn} {fa : Addr} {fd : FuncData} {ps : List Str} {x : Str} {p : Pos} {ms : List ME} {js : List Nat} {fs : Env → Out (List D)}
    (F : FnOk X.prog X.w X.K X.mg X.base (L2.CX X.prog X.w) k' fa fd ps (spF X.K EA call f fn)) (hr : Room k' X.A) (hg : Gl X x) (hm : X.mg x = some (.ref fa)) (hk : PySem.W.keepIn X.K (.ref fa) = true) (hb : Binds X.K fd ps []) (tk : Takes X W)
    (hj : ioSlots fn.io ms = some js) (hnd : js.Nodup) (hl : ms.length = fn.np) (hns : fn.np ≤ fn.ns)
    (ha : PA X (e :: es) (TAio X.K A0 EA W fn.io 0 ms fs)) (hdb : (x == ("__debug__" : Str)) = false) (he : notStar e = true) (hes : es.all notStar = true) :
    PE X (.Call (.Name x p) (e :: es) [] pos) (TEv X.K A0 EA W fn.fresh fun r => (fs r).bind fun ds r1 => match call f ds with
        | .ok d os => if os.length = js.length then .ok d (putMs r1 js os) else .bad
        | .exc x os => if os.length = js.length then .exc x (putMs r1 js os) else .bad
        | .bad => .bad) := by
  refine PE.imp (pe_callS F hr hg hm hk hb (fun σ => passAt tk σ) ha hdb (star_cons he) (star_none hes)) fun σ H Q ⟨r, Fs, G, h⟩ => ⟨r, Fs, G, h.bind fun ds r1 _ h1 => fun vs H1 k1 G1 q1 => ?_⟩
  obtain ⟨hjl, _⟩ := ioSlots_get hj
  obtain ⟨l1, l2⟩ := q1.len
  obtain ⟨CG, sub⟩ := callee_good G1 q1 hj hnd hl hns
  refine ⟨Sv A0 Fs, ds, by omega, by omega, CG, ?_⟩
  cases e : call f ds with
  | bad => rw [e] at h1; exact h1.elim
  | ok d os =>
    rw [e] at h1
    intro v H' kp rv ho hol
    simp only at h1
    rw [if_pos (by omega)] at h1
    exact h1 v H' (k1.trans (kp.weak sub)) (outs_put G1 q1 hj hnd hl hns kp ho hol) (rv.back k1)
  | exc x os =>
    rw [e] at h1
    intro cls dx H' kp ho hol hE
    simp only at h1
    rw [if_pos (by omega)] at h1
    exact h1 cls dx H' (k1.trans (kp.weak sub)) (outs_put G1 q1 hj hnd hl hns kp ho hol) hE
end
end Cw
end

section
namespace Cw
open PySem PySem.Spec PyProof.Rows L2

structure CkP where
  N : List Str
  fn : Str → Option Nat
  cst : Str → Option D
  blt : Str → Bool
  T : Nat → Option Fn
  gcds : Str → Bool
def gl (sc : Scope) (x : Str) : Bool := decide (sc.names.lookup x = some .globalImplicit)
def vis (sc : Scope) (x : Str) : Bool := match sc.names.lookup x with
  | some .local => true
  | some .cell => true
  | some .free => true
  | _ => false
def noDbg (x : Str) : Bool := !(x == ("__debug__" : Str)) && !(x == ("__classdict__" : Str))
def sameD : D → D → Bool
  | .none, .none => true
  | .bool a, .bool b => a == b
  | .int a, .int b => decide (a = b)
  | .str a, .str b => decide (a = b)
  | .tuple xs, .tuple ys => sameDs xs ys
  | _, _ => false
where sameDs : List D → List D → Bool
  | [], [] => true
  | x :: xs, y :: ys => sameD x y && sameDs xs ys
  | _, _ => false
mutual
theorem sameD_eq : ∀ {a b : D}, sameD a b = true → a = b
  | .none, b, h => by cases b <;> simp_all [sameD]
  | .bool x, b, h => by cases b <;> simp_all [sameD]
  | .int x, b, h => by cases b <;> simp_all [sameD]
  | .str x, b, h => by cases b <;> simp_all [sameD]
  | .tuple xs, b, h => by
    cases b <;> simp only [sameD, Bool.false_eq_true] at h
    rw [sameDs_eq h]
  | .list xs, b, h => by cases b <;> simp_all [sameD]
  | .dict xs, b, h => by cases b <;> simp_all [sameD]
theorem sameDs_eq : ∀ {a b : List D}, sameD.sameDs a b = true → a = b
  | [], b, h => by cases b <;> simp_all [sameD.sameDs]
  | x :: xs, b, h => by
    cases b <;> simp only [sameD.sameDs, Bool.false_eq_true, Bool.and_eq_true] at h
    rw [sameD_eq h.1, sameDs_eq h.2]
end
def isCon (d : D) : Const → Bool
  | .none => isNon d
  | .bool b => match d with
    | .bool c => b == c
    | _ => false
  | .int i => match d with
    | .int j => decide (i = j)
    | _ => false
  | .str x => match d with
    | .str y => decide (x = y)
    | _ => false
  | _ => false
def notSlice : Expr → Bool
  | .Slice .. => false
  | _ => true
def notSet : Expr → Bool
  | .Set .. => false
  | _ => true
def notCall0 : Expr → Bool
  | .Call _ [] [] _ => false
  | _ => true
def isTupE : Expr → Bool
  | .Tuple .. => true
  | _ => false
def isIt : ME → Bool
  | .rng .. => true
  | .enum .. => true
  | .zip .. => true
  | .rev .. => true
  | _ => false
def tupIt : ME → Bool
  | .enum .. => true
  | .zip .. => true
  | _ => false
/-- a comprehension's own names -/
def ownOf (N : List Str) (is : List Nat) : List (Str × Nat) := is.map fun i => (N.getD i "", i)
def okTg (N : List Str) (sc : Scope) (i : Nat) (x : Str) : Bool := decide (N[i]? = some x) && (match sc.names.lookup x with
  | some .local => true
  | some .cell => true
  | _ => false)
def pname (e : Expr) (x : Str) : Bool := match e with
  | .Name y _ => decide (y = x)
  | _ => false
mutual
def ckE (P : CkP) : ME → Scope → Expr → Bool
  | .var i, sc, e => match e with
    | .Name x _ => decide (P.N[i]? = some x) && vis sc x && noDbg x
    | _ => false
  | .con d, sc, e => match e with
    | .Constant c _ _ => isCon d c
    | .Name x _ => gl sc x && noDbg x && (match P.cst x with
      | some d' => sameD d d'
      | none => false)
    | _ => false
  | .tup es, sc, e => match e with
    | .Tuple xs _ _ => ckEs P es sc xs
    | _ => false
  | .lst es, sc, e => match e with
    | .List xs _ => ckEs P es sc xs
    | _ => false
  | .bin op a b, sc, e => match e with
    | .BinOp x o y _ => decide (o = opOf op) && (!isIt a && ckE P a sc x) && (!isIt b && ckE P b sc y)
    | _ => false
  | .lrep es b, sc, e => match e with
    | .BinOp x o y _ => (match x with
      | .List xs _ => decide (o = .Mult) && ckEs P es sc xs && (!isIt b && ckE P b sc y)
      | _ => false)
    | _ => false
  | .neg a, sc, e => match e with
    | .UnaryOp o x _ => decide (o = .USub) && (!isIt a && ckE P a sc x)
    | _ => false
  | .cmp op a b, sc, e => match e with
    | .Compare x os ys _ => (match ys with
      | [y] => decide (os = [copOf op]) && notSet y && (!isIt a && ckE P a sc x) && (!isIt b && ckE P b sc y)
      | _ => false)
    | _ => false
  | .chain p q a b c, sc, e => match e with
    | .Compare x os ys _ => (match ys with
      | [y, z] => decide (os = [copOf p, copOf q]) && notSet z && (!isIt a && ckE P a sc x) && (!isIt b && ckE P b sc y) && (!isIt c && ckE P c sc z)
      | _ => false)
    | _ => false
  | .and a b, sc, e => match e with
    | .BoolOp o xs p => decide (o = .And) && (match xs with
      | x :: y :: ys => (!isIt a && ckE P a sc x) && (!isIt b && ckE P b sc (match ys with
        | [] => y
        | _ => .BoolOp .And (y :: ys) p))
      | _ => false)
    | _ => false
  | .or a b, sc, e => match e with
    | .BoolOp o xs p => decide (o = .Or) && (match xs with
      | x :: y :: ys => (!isIt a && ckE P a sc x) && (!isIt b && ckE P b sc (match ys with
        | [] => y
        | _ => .BoolOp .Or (y :: ys) p))
      | _ => false)
    | _ => false
  | .not a, sc, e => match e with
    | .UnaryOp o x _ => decide (o = .Not) && (!isIt a && ckE P a sc x)
    | _ => false
  | .ite c a b, sc, e => match e with
    | .IfExp t x y _ => (!isIt c && ckE P c sc t) && (!isIt a && ckE P a sc x) && (!isIt b && ckE P b sc y)
    | _ => false
  | .idx a i, sc, e => match e with
    | .Subscript x y _ => notSlice y && (!isIt a && ckE P a sc x) && (!isIt i && ckE P i sc y)
    | _ => false
  | .sidx i b, sc, e => match e with
    | .Subscript x y _ => (match x with
      | .Name z _ => decide (P.N[i]? = some z) && vis sc z && noDbg z && notSlice y && (!isIt b && ckE P b sc y)
      | _ => false)
    | _ => false
  | .slc a lo hi, sc, e => match e with
    | .Subscript x y _ => (match y with
      | .Slice l h s _ => s.isNone && (!isIt a && ckE P a sc x) && ckO P lo sc l && ckO P hi sc h
      | _ => false)
    | _ => false
  | .call f es, sc, e => match e with
    | .Call x args kws _ => (match x with
      | .Name z _ => gl sc z && noDbg z && decide (P.fn z = some f) && kws.isEmpty && !args.isEmpty && args.all notStar && (match P.T f with
        | none => false
        | some fn => (match ioSlots fn.io es with
          | none => false
          | some js => decide js.Nodup && decide (es.length = fn.np) && decide (fn.np ≤ fn.ns) && ckAs P fn.io 0 es sc args))
      | _ => false)
    | _ => false
  | .bi b es, sc, e => match e with
    | .Call x args kws _ => pname x (biName b) && gl sc (biName b) && P.blt (biName b) && kws.isEmpty && !args.isEmpty && ckEs P es sc args
    | _ => false
  | .isa a ts, sc, e => match e with
    | .Call x args kws _ => pname x "isinstance" && gl sc "isinstance" && P.blt "isinstance" && kws.isEmpty && (ts.all fun t => gl sc (tyS t) && P.blt (tyS t)) && decide (ts.length ≤ 1000) && (match args with
      | [y, z] => notStar y && (!isIt a && ckE P a sc y) && (match z with
        | .Name n _ => (match ts with
          | [t] => decide (n = tyS t)
          | _ => false)
        | .Tuple zs _ _ => tyNames ts zs
        | _ => false)
      | _ => false)
    | _ => false
  | .mt m a es, sc, e => match e with
    | .Call f args kws cp => (match f with
      | .Attribute o at_ ap => decide (at_ = mtName m) && kws.isEmpty && (ap.endLine == cp.line) && notCall0 o && (!isIt a && ckE P a sc o) && (match args with
        | [y] => notStar y && ckEs P es sc [y]
        | _ => false)
      | _ => false)
    | _ => false
  | .lens a, sc, e => match e with
    | .Call x args kws _ => pname x "len" && gl sc "len" && P.blt "len" && gl sc "set" && P.blt "set" && kws.isEmpty && (match args with
      | [z] => (match z with
        | .Call x2 args2 kws2 _ => pname x2 "set" && kws2.isEmpty && (match args2 with
          | [y] => notStar y && (!isIt a && ckE P a sc y)
          | _ => false)
        | _ => false)
      | _ => false)
    | _ => false
  | .maxd a k, sc, e => match e with
    | .Call x args kws _ => pname x "max" && gl sc "max" && P.blt "max" && (match args with
      | [z] => notStar z && (!isIt a && ckE P a sc z)
      | _ => false) && (match kws with
      | [⟨nm, c, _⟩] => decide (nm = some "default") && (match c with
        | .Constant cc _ _ => (match cc with
          | .int i => decide (i = k)
          | _ => false)
        | _ => false)
      | _ => false)
    | _ => false
  | .gcd x a b, sc, e => match e with
    | .Call f args kws _ => pname f x && gl sc x && P.gcds x && noDbg x && kws.isEmpty && (match args with
      | [y, z] => notStar y && notStar z && (!isIt a && ckE P a sc y) && (!isIt b && ckE P b sc z)
      | _ => false)
    | _ => false
  | .comp elt t it c, sc, e => match e with
    | .ListComp x gs scope _ => (match gs with
      | [⟨tg, iter, ifs, n⟩] => decide (n = 0) && notSet iter && blkC P.N sc scope (ownOf P.N (tgS t)) && tgIs (okTg P.N scope) t tg && (!tupIt it || isTupE tg) && ckE P it sc iter && ckC P c (relS scope sc) ifs && (!isIt elt && ckE P elt (relS scope sc) x)
      | _ => false)
    | _ => false
  | .comp2 elt t it c t1 it1 c1, sc, e => match e with
    | .ListComp x gs scope _ => (match gs with
      | [⟨tg, iter, ifs, n⟩, ⟨tg1, iter1, ifs1, n1⟩] => decide (n = 0) && decide (n1 = 0) && notSet iter && notSet iter1 && blkC P.N sc scope (ownOf P.N (tgS t ++ tgS t1)) && tgIs (okTg P.N scope) t tg && tgIs (okTg P.N scope) t1 tg1 && (!tupIt it || isTupE tg) && (!tupIt it1 || isTupE tg1) &&
          ckE P it sc iter && ckC P c (relS scope sc) ifs && ckE P it1 (relS scope sc) iter1 && ckC P c1 (relS scope sc) ifs1 && (!isIt elt && ckE P elt (relS scope sc) x)
      | _ => false)
    | _ => false
  | .rng a b, sc, e => match e with
    | .Call x args kws _ => pname x "range" && gl sc "range" && P.blt "range" && kws.isEmpty && (match args with
      | [z] => (match a with
        | .con (.int i) => decide (i = 0)
        | _ => false) && notStar z && (!isIt b && ckE P b sc z)
      | [y, z] => notStar y && notStar z && (!isIt a && ckE P a sc y) && (!isIt b && ckE P b sc z)
      | _ => false)
    | _ => false
  | .enum a, sc, e => match e with
    | .Call x args kws _ => pname x "enumerate" && gl sc "enumerate" && P.blt "enumerate" && kws.isEmpty && (match args with
      | [z] => notStar z && (!isIt a && ckE P a sc z)
      | _ => false)
    | _ => false
  | .zip a b, sc, e => match e with
    | .Call x args kws _ => pname x "zip" && gl sc "zip" && P.blt "zip" && kws.isEmpty && (match args with
      | [y, z] => notStar y && notStar z && (!isIt a && ckE P a sc y) && (!isIt b && ckE P b sc z)
      | _ => false)
    | _ => false
  | .rev a, sc, e => match e with
    | .Call x args kws _ => pname x "reversed" && gl sc "reversed" && P.blt "reversed" && kws.isEmpty && (match args with
      | [z] => notStar z && (!isIt a && ckE P a sc z)
      | _ => false)
    | _ => false
def ckEs (P : CkP) : List ME → Scope → List Expr → Bool
  | [], sc, es => es.isEmpty
  | m :: ms, sc, es => match es with
    | e :: es => notStar e && (!isIt m && ckE P m sc e) && ckEs P ms sc es
    | [] => false
def ckAs (P : CkP) (io : List Nat) : Nat → List ME → Scope → List Expr → Bool
  | n, [], sc, es => es.isEmpty
  | n, m :: ms, sc, es => match es with
    | e :: es => (if io.contains n then (match m with
      | .var j => (match e with
        | .Name x _ => decide (P.N[j]? = some x) && vis sc x && noDbg x
        | _ => false)
      | _ => false) else notStar e && (!isIt m && ckE P m sc e)) && ckAs P io (n + 1) ms sc es
    | [] => false
def ckO (P : CkP) : Option ME → Scope → Option Expr → Bool
  | none, sc, e => e.isNone
  | some m, sc, e => match e with
    | some e => !isIt m && ckE P m sc e
    | none => false
def ckC (P : CkP) : Option ME → Scope → List Expr → Bool
  | none, sc, es => es.isEmpty
  | some m, sc, es => match es with
    | [e] => !isIt m && ckE P m sc e
    | _ => false
end
def frE (P : CkP) : ME → Nat
  | .con _ => 1
  | .lst _ => 1
  | .bin .. => 1
  | .lrep .. => 1
  | .slc .. => 1
  | .comp .. => 1
  | .comp2 .. => 1
  | .bi b _ => frBi b
  | .call f _ => match P.T f with
    | some fn => fn.fresh
    | none => 0
  | .ite _ a b => if frE P a = 1 ∧ frE P b = 1 then 1 else 0
  | _ => 0
end Cw
end

section
namespace Cw
open PySem PySem.Spec PyProof.Rows L2

structure XOk (P : CkP) (EA : EAt) (call : Nat → List D → OutC) (X : Cx) (sc : Scope) (W : WX) : Prop where
  N : X.N = P.N
  nd : P.N.Nodup
  calm : X.calm = true
  hu : X.A.units + 70 < cLine
  sc : X.env.scope = sc
  tk : Takes X W
  blt : ∀ x, P.blt x = true → X.mg x = none
  fns : ∀ x f fn, P.fn x = some f → P.T f = some fn → ∃ k fa fd ps, FnOk X.prog X.w X.K X.mg X.base (L2.CX X.prog X.w) k fa fd ps (spF X.K EA call f fn) ∧ Room k X.A ∧ X.mg x = some (.ref fa) ∧ PySem.W.keepIn X.K (.ref fa) = true ∧ Binds X.K fd ps []
  cst : ∀ x d, P.cst x = some d → ∃ v u, X.mg x = some u ∧ RelV v u ∧ (∀ (H : Hp) S, Rep X.K H S v d) ∧ ∀ ds, d ≠ .list ds
  gcd : ∀ x, P.gcds x = true → X.mg x = some (.builtin "math.gcd")
section
variable {P : CkP} {EA : EAt} {call : Nat → List D → OutC} {X : Cx} {sc : Scope} {W : WX}
theorem XOk.blk (h : XOk P EA call X sc W) (s : Shared) (H : Hp) (scope : Scope) (C : Addr) (cl : List (Str × Addr)) (fp : List Addr) : XOk P EA call (X.blk s H scope (compEnvC scope cl C X.env) fp) (relS scope sc) WNo where
  N := h.N
  nd := h.nd
  calm := h.calm
  hu := h.hu
  sc := by rw [← h.sc]; rfl
  tk := fun u s' ⟨_, _, _, _, _, _, _, _, _, _, _, _, _, _, _, _, w⟩ => w.elim
  blt := h.blt
  fns := h.fns
  cst := h.cst
  gcd := h.gcd
theorem gl_of (h : XOk P EA call X sc W) {x : Str} (g : gl sc x = true) : Gl X x := by
  have := of_decide_eq_true g
  unfold Gl PySem.Env.kindOf
  rw [h.sc]; exact this
theorem vis_of {x : Str} (h : XOk P EA call X sc W) (g : vis sc x = true) : Vis X.env.scope x := by
  rw [h.sc]
  unfold vis at g
  split at g
  · exact .inl (by assumption)
  · exact .inr (.inl (by assumption))
  · exact .inr (.inr (by assumption))
  · cases g
theorem dbg1 {x : Str} (h : noDbg x = true) : (x == ("__debug__" : Str)) = false ∧ (x == ("__classdict__" : Str)) = false := by
  simpa [noDbg] using h
theorem slice_ok {y : Expr} (h : notSlice y = true) : PlainIx y := by
  intro o i
  cases y <;> first | rfl | (simp [notSlice] at h)
theorem set_ok {y : Expr} (h : notSet y = true) : ∀ es k p, y ≠ .Set es k p := by
  intro es k p e
  subst e
  simp [notSet] at h
theorem fold_ok {y : Expr} (h : notSet y = true) : ∀ env x, foldedSetIterable y env x = pure x := by
  intro env x
  cases y <;> first | rfl | (simp [notSet] at h)
theorem base_ok {y : Expr} {env : PySem.Env} {nm : Str} (h : notCall0 y = true) : attributeBase y nm env (eval y env) = eval y env := by
  cases y <;> first | rfl | skip
  rename_i f args kws p
  cases args with
  | cons a as => cases f <;> rfl
  | nil =>
    cases kws with
    | nil => simp [notCall0] at h
    | cons k ks => cases f <;> rfl
theorem pt_ite {a b c : Expr} {tc ta tb : TT} {pos : Pos} (hc : PT X c tc) (ha : PT X a ta) (hb : PT X b tb) : PT X (.IfExp c a b pos) (fun σ H Q => tc σ H fun t H1 => if t = true then ta σ H1 Q else tb σ H1 Q) := by
  refine ⟨fun pins s σ H Q I h => ?_⟩
  show wpAny _ _ (do if ← isTrue c X.env (eval c X.env) then isTrue a X.env (eval a X.env) else isTrue b X.env (eval b X.env)) _ _ s
  refine wpAny_bind (thn (hc.run pins s σ H _ I h) fun t s1 ⟨H1, I1, q1⟩ => ?_)
  cases t with
  | true => exact ha.run pins s1 σ H1 Q I1 q1
  | false => exact hb.run pins s1 σ H1 Q I1 q1
theorem con_ok {d : D} {c : Const} {k : Nat} {p : Pos} {A0 : Prot} (h : isCon d c = true) : PE X (.Constant c k p) (TEv X.K A0 EA W 1 fun r => .ok d r) := by
  cases c <;> simp only [isCon, Bool.false_eq_true] at h
  · have : d = .none := by cases d <;> simp_all [isNon]
    subst this
    exact te_non
  · cases d <;> simp only [Bool.false_eq_true, beq_iff_eq] at h
    subst h
    exact te_bl
  · cases d <;> simp only [Bool.false_eq_true, decide_eq_true_eq] at h
    subst h
    exact te_int
  · cases d <;> simp only [Bool.false_eq_true, decide_eq_true_eq] at h
    subst h
    exact te_str
theorem pname_eq {e : Expr} {x : Str} (h : pname e x = true) : ∃ p, e = .Name x p := by
  cases e <;> simp only [pname, Bool.false_eq_true, decide_eq_true_eq] at h
  subst h
  exact ⟨_, rfl⟩
theorem tru_and {f g : Env → Out D} : (fun r => tru ((f r).bind fun x r1 => (lift (truthD x) r1).bind fun k r2 => if k then g r2 else .ok x r2)) = fun r => (tru (f r)).bind fun k r1 => if k then tru (g r1) else .ok false r1 := by
  funext r
  cases f r with
  | ok x r1 =>
    simp only [tru, Out.bind]
    cases h : truthD x with
    | none => rfl
    | some k => cases k <;> simp [Cw.lift, Out.bind, h]
  | exc _ _ => rfl
  | bad => rfl
theorem tru_or {f g : Env → Out D} : (fun r => tru ((f r).bind fun x r1 => (lift (truthD x) r1).bind fun k r2 => if k then .ok x r2 else g r2)) = fun r => (tru (f r)).bind fun k r1 => if k then .ok true r1 else tru (g r1) := by
  funext r
  cases f r with
  | ok x r1 =>
    simp only [tru, Out.bind]
    cases h : truthD x with
    | none => rfl
    | some k => cases k <;> simp [Cw.lift, Out.bind, h]
  | exc _ _ => rfl
  | bad => rfl
theorem tru_not {f : Env → Out D} : (fun r => tru ((f r).bind fun x r1 => lift ((truthD x).map fun k => .bool (!k)) r1)) = fun r => (tru (f r)).bind fun k r1 => .ok (!k) r1 := by
  funext r
  cases f r with
  | ok x r1 =>
    simp only [tru, Out.bind]
    cases h : truthD x with
    | none => rfl
    | some k => cases k <;> rfl
  | exc _ _ => rfl
  | bad => rfl
theorem tru_ite {c : Env → Out Bool} {f g : Env → Out D} : (fun r => tru ((c r).bind fun k r1 => if k then f r1 else g r1)) = fun r => (c r).bind fun k r1 => if k then tru (f r1) else tru (g r1) := by
  funext r
  cases c r with
  | ok k r1 => cases k <;> rfl
  | exc _ _ => rfl
  | bad => rfl
theorem tt_ite {A0 : Prot} {a b c : Expr} {f g h : Env → Out Bool} {pos : Pos} (hc : PT X c (TTv X.K A0 EA W f)) (ha : PT X a (TTv X.K A0 EA W g)) (hb : PT X b (TTv X.K A0 EA W h)) :
    PT X (.IfExp c a b pos) (TTv X.K A0 EA W fun r => (f r).bind fun k r1 => if k then g r1 else h r1) := by
  refine PT.imp (pt_ite hc ha hb) fun σ H Q ⟨r, Fs, G, q⟩ => ⟨r, Fs, G, q.bind fun k r1 _ h1 => fun H1 k1 G1 => ?_⟩
  cases k with
  | true =>
    rw [if_pos rfl]
    exact ⟨r1, Fs, G1, (show Pst X.K A0 EA W σ Fs H (g r1) _ from h1).later k1 fun b r2 h2 => fun H' k2 G2 => h2 H' (k1.trans k2) G2⟩
  | false =>
    rw [if_neg Bool.false_ne_true]
    exact ⟨r1, Fs, G1, (show Pst X.K A0 EA W σ Fs H (h r1) _ from h1).later k1 fun b r2 h2 => fun H' k2 G2 => h2 H' (k1.trans k2) G2⟩
theorem bool_pw {op : BoolOp} {es : List Expr} {pos : Pos} {t : TT} (h : PT X (.BoolOp op es pos) t) : PW X (.BoolOp op es pos) t := ⟨fun whole pins s σ H Q I q => h.run pins s σ H Q I q⟩
/-- the rest of an and / or -/
def restB (op : BoolOp) (y : Expr) (ys : List Expr) (p : Pos) : Expr := match ys with
  | [] => y
  | _ => .BoolOp op (y :: ys) p
theorem rest_pe {op : BoolOp} {y : Expr} {ys : List Expr} {p : Pos} {t : TE} (h : PE X (restB op y ys p) t) : PE X (.BoolOp op (y :: ys) p) t := by
  cases ys with
  | nil => exact pe_one h
  | cons z zs => exact h
theorem rest_pw_and {y : Expr} {ys : List Expr} {p : Pos} {t : TT} (h : PT X (restB .And y ys p) t) : PW X (.BoolOp .And (y :: ys) p) t := by
  cases ys with
  | nil => exact pw_and1 h
  | cons z zs => exact bool_pw h
theorem rest_pw_or {y : Expr} {ys : List Expr} {p : Pos} {t : TT} (h : PT X (restB .Or y ys p) t) : PW X (.BoolOp .Or (y :: ys) p) t := by
  cases ys with
  | nil => exact pw_or1 h
  | cons z zs => exact bool_pw h
theorem own_ix {N : List Str} {is : List Nat} : (ownOf N is).map (·.2) = is := by
  unfold ownOf
  rw [List.map_map]
  exact List.map_id is
theorem okTg_of {scope : Scope} {i : Nat} {x : Str} (h : XOk P EA call X sc W) (s : Shared) (H : Hp) (C : Addr) (cl : List (Str × Addr)) (fp : List Addr) (ho : okTg P.N scope i x = true) : TgName (X.blk s H scope (compEnvC scope cl C X.env) fp) i x := by
  unfold okTg at ho
  simp only [Bool.and_eq_true, decide_eq_true_eq] at ho
  have hk : ∀ k, k ≠ .free → scope.names.lookup x = some k → (compEnvC scope cl C X.env).scope.names.lookup x = some k := fun k n e => by
    show (relS scope X.env.scope).names.lookup x = some k
    exact lookup_relS_keep n e
  have h2 := ho.2
  split at h2
  · rename_i e
    exact ⟨by rw [← ho.1]; exact congrArg (·[i]?) h.N, .inl (hk _ (by decide) e), .inr (hk _ (by decide) e)⟩
  · rename_i e
    exact ⟨by rw [← ho.1]; exact congrArg (·[i]?) h.N, .inr (hk _ (by decide) e), .inl (by show (scope.names.lookup x == some .cell) = true; rw [e]; rfl)⟩
  · cases h2
/-- a comprehension, its parts given -/
theorem te_comp {A0 : Prot} {t : Tg} {fi : Env → Out (List D)} {fc : Env → Out Bool} {fe : Env → Out D} {ke : Nat} {scope : Scope} {elt tg iter : Expr} {ifs : List Expr} {pos : Pos} (h : XOk P EA call X sc W)
    (hi : PI X tg iter (TIv X.K A0 EA W fi)) (hb : blkC P.N sc scope (ownOf P.N (tgS t)) = true) (ht : tgIs (okTg P.N scope) t tg = true) (hs : notSet iter = true)
    (hc : ∀ (s : Shared) (H : Hp) (C : Addr) (cl : List (Str × Addr)) (fp : List Addr), PTs (X.blk s H scope (compEnvC scope cl C X.env) fp) ifs (TTy X.K EA fc))
    (he : ∀ (s : Shared) (H : Hp) (C : Addr) (cl : List (Str × Addr)) (fp : List Addr), PE (X.blk s H scope (compEnvC scope cl C X.env) fp) elt (TEy X.K EA ke fe)) :
    PE X (.ListComp elt [⟨tg, iter, ifs, 0⟩] scope pos) (TEv X.K A0 EA W 1 (compF t fi fc fe)) := by
  have ok : BlkOk X.N X.env.scope scope (ownOf P.N (tgS t)) := by rw [h.N, h.sc]; exact blkOk_by hb
  have gs : ∀ (s : Shared) (H : Hp) (C : Addr) (cl : List (Str × Addr)) (fp : List Addr), PG (X.blk s H scope (compEnvC scope cl C X.env) fp) tg (TGv X.K t) := fun s H C cl fp =>
    pg_of (X := X.blk s H scope (compEnvC scope cl C X.env) fp) (by show X.N.Nodup; rw [h.N]; exact h.nd) h.calm (fun i x => okTg_of h s H C cl fp) ht
  refine PE.imp (pe_lc h.calm (by rw [h.N]; exact h.nd) hi ok gs hc he (fold_ok hs _)) fun σ H Q q => ?_
  rw [own_ix]
  exact tv_comp q
theorem te_comp2 {A0 : Prot} {t t1 : Tg} {fi fi1 : Env → Out (List D)} {fc fc1 : Env → Out Bool} {fe : Env → Out D} {ke : Nat} {scope : Scope} {elt tg iter tg1 iter1 : Expr} {ifs ifs1 : List Expr} {pos : Pos} (h : XOk P EA call X sc W)
    (hi : PI X tg iter (TIv X.K A0 EA W fi)) (hb : blkC P.N sc scope (ownOf P.N (tgS t ++ tgS t1)) = true) (ht : tgIs (okTg P.N scope) t tg = true) (ht1 : tgIs (okTg P.N scope) t1 tg1 = true) (hs : notSet iter = true) (hs1 : notSet iter1 = true)
    (hc : ∀ (s : Shared) (H : Hp) (C : Addr) (cl : List (Str × Addr)) (fp : List Addr), PTs (X.blk s H scope (compEnvC scope cl C X.env) fp) ifs (TTy X.K EA fc))
    (hi1 : ∀ (s : Shared) (H : Hp) (C : Addr) (cl : List (Str × Addr)) (fp : List Addr), PI (X.blk s H scope (compEnvC scope cl C X.env) fp) tg1 iter1 (TIy X.K EA fi1))
    (hc1 : ∀ (s : Shared) (H : Hp) (C : Addr) (cl : List (Str × Addr)) (fp : List Addr), PTs (X.blk s H scope (compEnvC scope cl C X.env) fp) ifs1 (TTy X.K EA fc1))
    (he : ∀ (s : Shared) (H : Hp) (C : Addr) (cl : List (Str × Addr)) (fp : List Addr), PE (X.blk s H scope (compEnvC scope cl C X.env) fp) elt (TEy X.K EA ke fe)) :
    PE X (.ListComp elt [⟨tg, iter, ifs, 0⟩, ⟨tg1, iter1, ifs1, 0⟩] scope pos) (TEv X.K A0 EA W 1 (compF2 t fi fc t1 fi1 fc1 fe)) := by
  have ok : BlkOk X.N X.env.scope scope (ownOf P.N (tgS t ++ tgS t1)) := by rw [h.N, h.sc]; exact blkOk_by hb
  have gs : ∀ {t : Tg} {tg : Expr}, tgIs (okTg P.N scope) t tg = true → ∀ (s : Shared) (H : Hp) (C : Addr) (cl : List (Str × Addr)) (fp : List Addr), PG (X.blk s H scope (compEnvC scope cl C X.env) fp) tg (TGv X.K t) := fun ht s H C cl fp =>
    pg_of (X := X.blk s H scope (compEnvC scope cl C X.env) fp) (by show X.N.Nodup; rw [h.N]; exact h.nd) h.calm (fun i x => okTg_of h s H C cl fp) ht
  refine PE.imp (pe_lc2 h.calm (by rw [h.N]; exact h.nd) hi ok (vs1 := tgS t1) (by rw [own_ix]; exact fun i hi => List.mem_append_right _ hi) (gs ht) hc hi1 (gs ht1) hc1 he (fold_ok hs _) (fold_ok hs1)) fun σ H Q q => ?_
  rw [own_ix]
  exact tv_comp2 q

theorem not_and {a b : Bool} (h : (!a && b) = true) : a = false ∧ b = true := by
  cases a <;> simp_all
mutual
theorem ckE_ok (m : ME) {sc : Scope} {e : Expr} {X : Cx} {W : WX} {A0 : Prot} (x : XOk P EA call X sc W) (h : ckE P m sc e = true) (hi : isIt m = false) : PE X e (TEv X.K A0 EA W (frE P m) (evE P.T call m)) := by
  match m with
  | .var i =>
    cases e <;> simp only [ckE, Bool.false_eq_true, Bool.and_eq_true, decide_eq_true_eq] at h
    exact te_var (by rw [x.N]; exact h.1.1) (vis_of x h.1.2) (dbg1 h.2).1 (dbg1 h.2).2
  | .con d =>
    cases e <;> simp only [ckE, Bool.false_eq_true, Bool.and_eq_true] at h
    · exact con_ok h
    · obtain ⟨⟨h1, h2⟩, h3⟩ := h
      split at h3
      · rename_i d' e'
        obtain ⟨v, u, hm, hr, rp, hd⟩ := x.cst _ _ e'
        rw [sameD_eq h3]
        exact te_con (pe_glob (gl_of x h1) hm hr (dbg1 h2).1) rp hd
      · cases h3
  | .tup es =>
    cases e <;> simp only [ckE, Bool.false_eq_true] at h
    exact te_tup (ckEs_ok es x h).1
  | .lst es =>
    cases e <;> simp only [ckE, Bool.false_eq_true] at h
    exact te_lst (ckEs_ok es x h).1
  | .bin op a b =>
    cases e <;> simp only [ckE, Bool.false_eq_true, Bool.and_eq_true, decide_eq_true_eq] at h
    obtain ⟨⟨rfl, h1⟩, h2⟩ := h
    exact te_bin (ckE_ok a x h1.2 (by simpa using h1.1)) (ckE_ok b x h2.2 (by simpa using h2.1))
  | .lrep es b =>
    cases e <;> simp only [ckE, Bool.false_eq_true] at h
    rename_i l o r p
    cases l <;> simp only [Bool.false_eq_true, Bool.and_eq_true, decide_eq_true_eq] at h
    obtain ⟨⟨rfl, h1⟩, h2⟩ := h
    exact te_lrep (ckEs_ok es x h1).1 (ckE_ok b x h2.2 (by simpa using h2.1))
  | .neg a =>
    cases e <;> simp only [ckE, Bool.false_eq_true, Bool.and_eq_true, decide_eq_true_eq] at h
    obtain ⟨rfl, h1⟩ := h
    exact te_neg (ckE_ok a x h1.2 (by simpa using h1.1))
  | .cmp op a b =>
    cases e <;> simp only [ckE, Bool.false_eq_true] at h
    rename_i l os ys p
    match ys, h with
    | [y], h =>
      simp only [Bool.and_eq_true, decide_eq_true_eq] at h
      obtain ⟨⟨⟨rfl, h1⟩, h2⟩, h3⟩ := h
      exact te_cmp (by have := x.hu; omega) (ckE_ok a x h2.2 (by simpa using h2.1)) (ckE_ok b x h3.2 (by simpa using h3.1)) (set_ok h1)
  | .chain o1 o2 a b c =>
    cases e <;> simp only [ckE, Bool.false_eq_true] at h
    rename_i l os ys p
    match ys, h with
    | [y, z], h =>
      simp only [Bool.and_eq_true, decide_eq_true_eq] at h
      obtain ⟨⟨⟨⟨rfl, h1⟩, h2⟩, h3⟩, h4⟩ := h
      exact te_chain (by have := x.hu; omega) (ckE_ok a x h2.2 (by simpa using h2.1)) (ckE_ok b x h3.2 (by simpa using h3.1)) (ckE_ok c x h4.2 (by simpa using h4.1)) (set_ok h1)
  | .and a b =>
    cases e <;> simp only [ckE, Bool.false_eq_true, Bool.and_eq_true, decide_eq_true_eq] at h
    rename_i o xs p
    obtain ⟨rfl, h⟩ := h
    match xs, h with
    | z :: y :: ys, h =>
      simp only [Bool.and_eq_true] at h
      obtain ⟨h1, h2⟩ := h
      exact te_and (ckE_ok a x h1.2 (by simpa using h1.1)) (rest_pe (ys := ys) (te_down (k := frE P b) (j := 0) (by omega) (ckE_ok b (e := restB .And y ys p) x h2.2 (by simpa using h2.1))))
  | .or a b =>
    cases e <;> simp only [ckE, Bool.false_eq_true, Bool.and_eq_true, decide_eq_true_eq] at h
    rename_i o xs p
    obtain ⟨rfl, h⟩ := h
    match xs, h with
    | z :: y :: ys, h =>
      simp only [Bool.and_eq_true] at h
      obtain ⟨h1, h2⟩ := h
      exact te_or (ckE_ok a x h1.2 (by simpa using h1.1)) (rest_pe (ys := ys) (te_down (k := frE P b) (j := 0) (by omega) (ckE_ok b (e := restB .Or y ys p) x h2.2 (by simpa using h2.1))))
  | .not a =>
    cases e <;> simp only [ckE, Bool.false_eq_true, Bool.and_eq_true, decide_eq_true_eq] at h
    obtain ⟨rfl, h1⟩ := h
    exact te_not (ckE_ok a x h1.2 (by simpa using h1.1))
  | .ite c a b =>
    cases e <;> simp only [ckE, Bool.false_eq_true, Bool.and_eq_true] at h
    obtain ⟨⟨h1, h2⟩, h3⟩ := h
    exact te_ite (ckT_ok c x h1.2 (by simpa using h1.1)) (te_down (k := frE P a) (j := frE P (.ite c a b)) (fun z => by simp only [frE] at z; split at z <;> simp_all) (ckE_ok a x h2.2 (by simpa using h2.1)))
      (te_down (k := frE P b) (j := frE P (.ite c a b)) (fun z => by simp only [frE] at z; split at z <;> simp_all) (ckE_ok b x h3.2 (by simpa using h3.1)))
  | .idx a i =>
    cases e <;> simp only [ckE, Bool.false_eq_true, Bool.and_eq_true] at h
    obtain ⟨⟨h1, h2⟩, h3⟩ := h
    exact te_idx (ckE_ok a x h2.2 (by simpa using h2.1)) (ckE_ok i x h3.2 (by simpa using h3.1)) (slice_ok h1)
  | .sidx i b =>
    cases e <;> simp only [ckE, Bool.false_eq_true] at h
    rename_i v s p
    cases v <;> simp only [Bool.false_eq_true, Bool.and_eq_true, decide_eq_true_eq] at h
    obtain ⟨⟨⟨⟨h1, h2⟩, h3⟩, h4⟩, h5⟩ := h
    exact te_sidx (by rw [x.N]; exact h1) (vis_of x h2) (dbg1 h3).1 (dbg1 h3).2 (ckE_ok b x h5.2 (by simpa using h5.1)) (slice_ok h4)
  | .slc a lo hi =>
    cases e <;> simp only [ckE, Bool.false_eq_true] at h
    rename_i v s p
    cases s <;> simp only [Bool.false_eq_true, Bool.and_eq_true] at h
    rename_i l hh st p2
    obtain ⟨⟨⟨h1, h2⟩, h3⟩, h4⟩ := h
    rw [Option.isNone_iff_eq_none] at h1
    subst h1
    exact te_slc (ckE_ok a x h2.2 (by simpa using h2.1)) (ckO_ok lo x h3) (ckO_ok hi x h4)
  | .call f es =>
    cases e <;> simp only [ckE, Bool.false_eq_true] at h
    rename_i v args kws p
    cases v <;> simp only [Bool.false_eq_true, Bool.and_eq_true, decide_eq_true_eq] at h
    rename_i z pz
    obtain ⟨⟨⟨⟨⟨⟨h1, h2⟩, h3⟩, h4⟩, h5⟩, h6⟩, h7⟩ := h
    cases hT : P.T f with
    | none => rw [hT] at h7; cases h7
    | some fn =>
      rw [hT] at h7
      simp only at h7
      cases hj : ioSlots fn.io es with
      | none => rw [hj] at h7; cases h7
      | some js =>
        rw [hj] at h7
        simp only [Bool.and_eq_true, decide_eq_true_eq] at h7
        obtain ⟨⟨⟨h8, h9⟩, h10⟩, h11⟩ := h7
        obtain ⟨k, fa, fd, ps, F, hr, hm, hk, hb⟩ := x.fns _ _ _ h3 hT
        have hkw : kws = [] := by simpa using h4
        subst hkw
        match args, h5, h6, h11 with
        | a0 :: args, _, h6, h11 =>
          have ha := ckAs_ok fn.io 0 es (A0 := A0) (W := W) x h11
          simp only [List.all_cons, Bool.and_eq_true] at h6
          have q := te_call (A0 := A0) (W := W) (pos := p) (p := pz) F hr (gl_of x h1) hm hk hb x.tk hj h8 h9 h10 ha (dbg1 h2).1 h6.1 h6.2
          have e1 : frE P (.call f es) = fn.fresh := by simp only [frE, hT]
          have e2 : evE P.T call (.call f es) = fun r => (evAs P.T call fn.io 0 es r).bind fun ds r1 => match call f ds with
              | .ok d os => if os.length = js.length then .ok d (putMs r1 js os) else .bad
              | .exc x os => if os.length = js.length then .exc x (putMs r1 js os) else .bad
              | .bad => .bad := by
            funext r
            simp only [evE, hT, hj]
            rw [if_neg (by simp [h8])] <;> rfl
          rw [e1, e2]
          exact q
  | .bi b es =>
    cases e <;> simp only [ckE, Bool.false_eq_true, Bool.and_eq_true] at h
    rename_i v args kws p
    obtain ⟨⟨⟨⟨⟨h1, h2⟩, h3⟩, h4⟩, h5⟩, h6⟩ := h
    obtain ⟨pz, rfl⟩ := pname_eq h1
    have hkw : kws = [] := by simpa using h4
    subst hkw
    match args, h5, h6 with
    | a0 :: args, _, h6 =>
      obtain ⟨ha, hs⟩ := ckEs_ok es (A0 := A0) (W := W) x h6
      simp only [List.all_cons, Bool.and_eq_true] at hs
      exact te_bi b x.calm x.hu (gl_of x h2) (x.blt _ h3) ha hs.1 hs.2
  | .isa a ts =>
    cases e <;> simp only [ckE, Bool.false_eq_true, Bool.and_eq_true, decide_eq_true_eq] at h
    rename_i v args kws p
    obtain ⟨⟨⟨⟨⟨⟨h1, h2⟩, h3⟩, h4⟩, h5⟩, h6⟩, h7⟩ := h
    obtain ⟨pz, rfl⟩ := pname_eq h1
    have hkw : kws = [] := by simpa using h4
    subst hkw
    have hty : ∀ t ∈ ts, Gl X (tyS t) ∧ X.mg (tyS t) = none := fun t ht => by
      have := List.all_eq_true.mp h5 t ht
      simp only [Bool.and_eq_true] at this
      exact ⟨gl_of x this.1, x.blt _ this.2⟩
    match args, h7 with
    | [y, z], h7 =>
      simp only [Bool.and_eq_true] at h7
      obtain ⟨⟨h8, h9⟩, h10⟩ := h7
      have ha := ckE_ok a (A0 := A0) (W := W) x h9.2 (by simpa using h9.1)
      cases z <;> simp only [Bool.false_eq_true] at h10
      · match ts, h10, hty with
        | [t], h10, hty =>
          have e := of_decide_eq_true h10
          subst e
          exact te_isa1 (gl_of x h2) (x.blt _ h3) (hty t List.mem_cons_self).1 (hty t List.mem_cons_self).2 ha h8
      · exact te_isaN (gl_of x h2) (x.blt _ h3) ha h8 (pa_tys hty h10) h6
  | .mt m a es =>
    cases e <;> simp only [ckE, Bool.false_eq_true] at h
    rename_i f args kws cp
    cases f <;> simp only [Bool.false_eq_true, Bool.and_eq_true, decide_eq_true_eq] at h
    rename_i o at_ ap
    obtain ⟨⟨⟨⟨⟨rfl, h2⟩, h3⟩, h4⟩, h5⟩, h6⟩ := h
    have hkw : kws = [] := by simpa using h2
    subst hkw
    match args, h6 with
    | [y], h6 =>
      simp only [Bool.and_eq_true] at h6
      exact te_mt m x.hu (ckE_ok a x h5.2 (by simpa using h5.1)) (ckEs_ok es x h6.2).1 (base_ok h4) h3 h6.1
  | .lens a =>
    cases e <;> simp only [ckE, Bool.false_eq_true, Bool.and_eq_true] at h
    rename_i v args kws p
    obtain ⟨⟨⟨⟨⟨⟨h1, h2⟩, h3⟩, h4⟩, h5⟩, h6⟩, h7⟩ := h
    obtain ⟨pz, rfl⟩ := pname_eq h1
    have hkw : kws = [] := by simpa using h6
    subst hkw
    match args, h7 with
    | [z], h7 =>
      cases z <;> simp only [Bool.false_eq_true, Bool.and_eq_true] at h7
      rename_i v2 args2 kws2 p2
      obtain ⟨⟨g1, g2⟩, g3⟩ := h7
      obtain ⟨pz2, rfl⟩ := pname_eq g1
      have hkw2 : kws2 = [] := by simpa using g2
      subst hkw2
      match args2, g3 with
      | [y], g3 =>
        simp only [Bool.and_eq_true] at g3
        exact te_lens x.calm (gl_of x h2) (x.blt _ h3) (gl_of x h4) (x.blt _ h5) (ckE_ok a x g3.2.2 (by simpa using g3.2.1)) g3.1
  | .maxd a k =>
    cases e <;> simp only [ckE, Bool.false_eq_true, Bool.and_eq_true] at h
    rename_i v args kws p
    obtain ⟨⟨⟨⟨h1, h2⟩, h3⟩, h4⟩, h5⟩ := h
    obtain ⟨pz, rfl⟩ := pname_eq h1
    match args, h4, kws, h5 with
    | [z], h4, [⟨nm, c, kp⟩], h5 =>
      simp only [Bool.and_eq_true, decide_eq_true_eq] at h4 h5
      obtain ⟨rfl, h6⟩ := h5
      cases c <;> simp only [Bool.false_eq_true] at h6
      rename_i cc j ip
      cases cc <;> simp only [Bool.false_eq_true, decide_eq_true_eq] at h6
      subst h6
      exact te_maxd x.calm x.hu (gl_of x h2) (x.blt _ h3) (ckE_ok a x h4.2.2 (by simpa using h4.2.1)) h4.1
  | .gcd nm a b =>
    cases e <;> simp only [ckE, Bool.false_eq_true, Bool.and_eq_true] at h
    rename_i v args kws p
    obtain ⟨⟨⟨⟨⟨h1, h2⟩, h3⟩, h4⟩, h5⟩, h6⟩ := h
    obtain ⟨pz, rfl⟩ := pname_eq h1
    have hkw : kws = [] := by simpa using h5
    subst hkw
    match args, h6 with
    | [y, z], h6 =>
      simp only [Bool.and_eq_true] at h6
      obtain ⟨⟨⟨g1, g2⟩, g3⟩, g4⟩ := h6
      exact te_gcd (gl_of x h2) (x.gcd _ h3) (ckE_ok a x g3.2 (by simpa using g3.1)) (ckE_ok b x g4.2 (by simpa using g4.1)) g1 g2 (dbg1 h4).1
  | .comp elt t it c =>
    cases e <;> simp only [ckE, Bool.false_eq_true] at h
    rename_i y gs scope p
    match gs, h with
    | [⟨tg, iter, ifs, n⟩], h =>
      simp only [Bool.and_eq_true, decide_eq_true_eq] at h
      obtain ⟨⟨⟨⟨⟨⟨⟨rfl, h1⟩, h2⟩, h3⟩, h4⟩, h5⟩, h6⟩, h7⟩ := h
      exact te_comp x (ckI_ok it x h5 tg (fun z => by simpa [z] using h4)) h2 h3 h1 (fun s H C cl fp => ckC_ok c (x.blk s H scope C cl fp) h6) fun s H C cl fp => tey_of fun A0 => ckE_ok elt (x.blk s H scope C cl fp) h7.2 (by simpa using h7.1)
  | .comp2 elt t it c t1 it1 c1 =>
    cases e <;> simp only [ckE, Bool.false_eq_true] at h
    rename_i y gs scope p
    match gs, h with
    | [⟨tg, iter, ifs, n⟩, ⟨tg1, iter1, ifs1, n1⟩], h =>
      simp only [Bool.and_eq_true, decide_eq_true_eq] at h
      obtain ⟨⟨⟨⟨⟨⟨⟨⟨⟨⟨⟨⟨⟨rfl, rfl⟩, h1⟩, h1'⟩, h2⟩, h3⟩, h3'⟩, h4⟩, h4'⟩, h5⟩, h6⟩, h5'⟩, h6'⟩, h7⟩ := h
      exact te_comp2 x (ckI_ok it x h5 tg (fun z => by simpa [z] using h4)) h2 h3 h3' h1 h1' (fun s H C cl fp => ckC_ok c (x.blk s H scope C cl fp) h6)
        (fun s H C cl fp => tiy_of fun A0 => ckI_ok it1 (x.blk s H scope C cl fp) h5' tg1 (fun z => by simpa [z] using h4'))
        (fun s H C cl fp => ckC_ok c1 (x.blk s H scope C cl fp) h6') fun s H C cl fp => tey_of fun A0 => ckE_ok elt (x.blk s H scope C cl fp) h7.2 (by simpa using h7.1)
  | .rng _ _ => simp [isIt] at hi
  | .enum _ => simp [isIt] at hi
  | .zip _ _ => simp [isIt] at hi
  | .rev _ => simp [isIt] at hi
termination_by (sizeOf m, 0)
theorem ckT_ok (m : ME) {sc : Scope} {e : Expr} {X : Cx} {W : WX} {A0 : Prot} (x : XOk P EA call X sc W) (h : ckE P m sc e = true) (hi : isIt m = false) : PT X e (TTv X.K A0 EA W fun r => tru (evE P.T call m r)) := by
  match m with
  | .cmp op a b =>
    cases e <;> simp only [ckE, Bool.false_eq_true] at h
    rename_i l os ys p
    match ys, h with
    | [y], h =>
      simp only [Bool.and_eq_true, decide_eq_true_eq] at h
      obtain ⟨⟨⟨rfl, h1⟩, h2⟩, h3⟩ := h
      exact tt_cmp (by have := x.hu; omega) (ckE_ok a x h2.2 (by simpa using h2.1)) (ckE_ok b x h3.2 (by simpa using h3.1)) (set_ok h1)
  | .chain o1 o2 a b c =>
    cases e <;> simp only [ckE, Bool.false_eq_true] at h
    rename_i l os ys p
    match ys, h with
    | [y, z], h =>
      simp only [Bool.and_eq_true, decide_eq_true_eq] at h
      obtain ⟨⟨⟨⟨rfl, h1⟩, h2⟩, h3⟩, h4⟩ := h
      exact tt_chain (by have := x.hu; omega) (ckE_ok a x h2.2 (by simpa using h2.1)) (ckE_ok b x h3.2 (by simpa using h3.1)) (ckE_ok c x h4.2 (by simpa using h4.1)) (set_ok h1)
  | .and a b =>
    cases e <;> simp only [ckE, Bool.false_eq_true, Bool.and_eq_true, decide_eq_true_eq] at h
    rename_i o xs p
    obtain ⟨rfl, h⟩ := h
    match xs, h with
    | z :: y :: ys, h =>
      simp only [Bool.and_eq_true] at h
      obtain ⟨h1, h2⟩ := h
      have q := (tt_and (ckT_ok a (A0 := A0) x h1.2 (by simpa using h1.1)) (rest_pw_and (ys := ys) (ckT_ok b (A0 := A0) (e := restB .And y ys p) x h2.2 (by simpa using h2.1)))).pt
      rw [← tru_and] at q
      exact q
  | .or a b =>
    cases e <;> simp only [ckE, Bool.false_eq_true, Bool.and_eq_true, decide_eq_true_eq] at h
    rename_i o xs p
    obtain ⟨rfl, h⟩ := h
    match xs, h with
    | z :: y :: ys, h =>
      simp only [Bool.and_eq_true] at h
      obtain ⟨h1, h2⟩ := h
      have q := (tt_or (ckT_ok a (A0 := A0) x h1.2 (by simpa using h1.1)) (rest_pw_or (ys := ys) (ckT_ok b (A0 := A0) (e := restB .Or y ys p) x h2.2 (by simpa using h2.1)))).pt
      rw [← tru_or] at q
      exact q
  | .not a =>
    cases e <;> simp only [ckE, Bool.false_eq_true, Bool.and_eq_true, decide_eq_true_eq] at h
    obtain ⟨rfl, h1⟩ := h
    have q := tt_not (pos := ‹Pos›) (ckT_ok a (A0 := A0) x h1.2 (by simpa using h1.1))
    rw [← tru_not] at q
    exact q
  | .ite c a b =>
    cases e <;> simp only [ckE, Bool.false_eq_true, Bool.and_eq_true] at h
    obtain ⟨⟨h1, h2⟩, h3⟩ := h
    have q := tt_ite (pos := ‹Pos›) (ckT_ok c (A0 := A0) x h1.2 (by simpa using h1.1)) (ckT_ok a (A0 := A0) x h2.2 (by simpa using h2.1)) (ckT_ok b (A0 := A0) x h3.2 (by simpa using h3.1))
    rw [← tru_ite] at q
    exact q
  | .neg a =>
    have q := ckE_ok (.neg a) (A0 := A0) x h hi
    cases e <;> simp only [ckE, Bool.false_eq_true, Bool.and_eq_true, decide_eq_true_eq] at h
    obtain ⟨rfl, h1⟩ := h
    exact tt_val q fun _ => rfl
  | .var i => exact tt_val (ckE_ok (.var i) x h hi) (by cases e <;> simp only [ckE, Bool.false_eq_true] at h <;> exact fun _ => rfl)
  | .con i => exact tt_val (ckE_ok (.con i) x h hi) (by cases e <;> simp only [ckE, Bool.false_eq_true] at h <;> exact fun _ => rfl)
  | .tup i => exact tt_val (ckE_ok (.tup i) x h hi) (by cases e <;> simp only [ckE, Bool.false_eq_true] at h <;> exact fun _ => rfl)
  | .lst i => exact tt_val (ckE_ok (.lst i) x h hi) (by cases e <;> simp only [ckE, Bool.false_eq_true] at h <;> exact fun _ => rfl)
  | .bin o a b => exact tt_val (ckE_ok (.bin o a b) x h hi) (by cases e <;> simp only [ckE, Bool.false_eq_true] at h <;> exact fun _ => rfl)
  | .lrep a b => exact tt_val (ckE_ok (.lrep a b) x h hi) (by cases e <;> simp only [ckE, Bool.false_eq_true] at h <;> exact fun _ => rfl)
  | .idx a b => exact tt_val (ckE_ok (.idx a b) x h hi) (by cases e <;> simp only [ckE, Bool.false_eq_true] at h <;> exact fun _ => rfl)
  | .sidx a b => exact tt_val (ckE_ok (.sidx a b) x h hi) (by cases e <;> simp only [ckE, Bool.false_eq_true] at h <;> exact fun _ => rfl)
  | .slc a b c => exact tt_val (ckE_ok (.slc a b c) x h hi) (by cases e <;> simp only [ckE, Bool.false_eq_true] at h <;> exact fun _ => rfl)
  | .call a b => exact tt_val (ckE_ok (.call a b) x h hi) (by cases e <;> simp only [ckE, Bool.false_eq_true] at h <;> exact fun _ => rfl)
  | .bi a b => exact tt_val (ckE_ok (.bi a b) x h hi) (by cases e <;> simp only [ckE, Bool.false_eq_true] at h <;> exact fun _ => rfl)
  | .isa a b => exact tt_val (ckE_ok (.isa a b) x h hi) (by cases e <;> simp only [ckE, Bool.false_eq_true] at h <;> exact fun _ => rfl)
  | .mt a b c => exact tt_val (ckE_ok (.mt a b c) x h hi) (by cases e <;> simp only [ckE, Bool.false_eq_true] at h <;> exact fun _ => rfl)
  | .lens a => exact tt_val (ckE_ok (.lens a) x h hi) (by cases e <;> simp only [ckE, Bool.false_eq_true] at h <;> exact fun _ => rfl)
  | .maxd a k => exact tt_val (ckE_ok (.maxd a k) x h hi) (by cases e <;> simp only [ckE, Bool.false_eq_true] at h <;> exact fun _ => rfl)
  | .gcd nm a b => exact tt_val (ckE_ok (.gcd nm a b) x h hi) (by cases e <;> simp only [ckE, Bool.false_eq_true] at h <;> exact fun _ => rfl)
  | .comp a b c d => exact tt_val (ckE_ok (.comp a b c d) x h hi) (by cases e <;> simp only [ckE, Bool.false_eq_true] at h <;> exact fun _ => rfl)
  | .comp2 a b c d e1 f g => exact tt_val (ckE_ok (.comp2 a b c d e1 f g) x h hi) (by cases e <;> simp only [ckE, Bool.false_eq_true] at h <;> exact fun _ => rfl)
  | .rng _ _ => simp [isIt] at hi
  | .enum _ => simp [isIt] at hi
  | .zip _ _ => simp [isIt] at hi
  | .rev _ => simp [isIt] at hi
termination_by (sizeOf m, 1)
theorem ckI_ok (m : ME) {sc : Scope} {e : Expr} {X : Cx} {W : WX} {A0 : Prot} (x : XOk P EA call X sc W) (h : ckE P m sc e = true) (tg : Expr) (ht : tupIt m = true → isTupE tg = true) :
    PI X tg e (TIv X.K A0 EA W fun r => (evE P.T call m r).bind fun x r1 => lift (itemsD x) r1) := by
  by_cases hi : isIt m = false
  · exact ti_seq (ckE_ok m x h hi)
  · match m with
    | .rng a b =>
      cases e <;> simp only [ckE, Bool.false_eq_true, Bool.and_eq_true] at h
      rename_i v args kws p
      obtain ⟨⟨⟨⟨h1, h2⟩, h3⟩, h4⟩, h5⟩ := h
      obtain ⟨pz, rfl⟩ := pname_eq h1
      have hkw : kws = [] := by simpa using h4
      subst hkw
      match args, h5 with
      | [z], h5 =>
        simp only [Bool.and_eq_true] at h5
        obtain ⟨⟨h6, h7⟩, h8⟩ := h5
        have q := ti_rng1 (tg := tg) (pos := p) (p := pz) (gl_of x h2) (x.blt _ h3) (ckE_ok b (A0 := A0) (W := W) x h8.2 (by simpa using h8.1)) h7
        split at h6
        · have e := of_decide_eq_true h6
          subst e
          exact q
        · cases h6
      | [y, z], h5 =>
        simp only [Bool.and_eq_true] at h5
        obtain ⟨⟨⟨h6, h7⟩, h8⟩, h9⟩ := h5
        exact ti_rng2 (gl_of x h2) (x.blt _ h3) (ckE_ok a x h8.2 (by simpa using h8.1)) (ckE_ok b x h9.2 (by simpa using h9.1)) h6 h7
    | .enum a =>
      cases e <;> simp only [ckE, Bool.false_eq_true, Bool.and_eq_true] at h
      rename_i v args kws p
      obtain ⟨⟨⟨⟨h1, h2⟩, h3⟩, h4⟩, h5⟩ := h
      obtain ⟨pz, rfl⟩ := pname_eq h1
      have hkw : kws = [] := by simpa using h4
      subst hkw
      have ht' := ht rfl
      cases tg <;> simp only [isTupE, Bool.false_eq_true] at ht'
      match args, h5 with
      | [z], h5 =>
        simp only [Bool.and_eq_true] at h5
        exact ti_enum (gl_of x h2) (x.blt _ h3) (ckE_ok a x h5.2.2 (by simpa using h5.2.1)) h5.1
    | .zip a b =>
      cases e <;> simp only [ckE, Bool.false_eq_true, Bool.and_eq_true] at h
      rename_i v args kws p
      obtain ⟨⟨⟨⟨h1, h2⟩, h3⟩, h4⟩, h5⟩ := h
      obtain ⟨pz, rfl⟩ := pname_eq h1
      have hkw : kws = [] := by simpa using h4
      subst hkw
      have ht' := ht rfl
      cases tg <;> simp only [isTupE, Bool.false_eq_true] at ht'
      match args, h5 with
      | [y, z], h5 =>
        simp only [Bool.and_eq_true] at h5
        obtain ⟨⟨⟨h6, h7⟩, h8⟩, h9⟩ := h5
        exact ti_zip (gl_of x h2) (x.blt _ h3) (ckE_ok a x h8.2 (by simpa using h8.1)) (ckE_ok b x h9.2 (by simpa using h9.1)) h6 h7
    | .rev a =>
      cases e <;> simp only [ckE, Bool.false_eq_true, Bool.and_eq_true] at h
      rename_i v args kws p
      obtain ⟨⟨⟨⟨h1, h2⟩, h3⟩, h4⟩, h5⟩ := h
      obtain ⟨pz, rfl⟩ := pname_eq h1
      have hkw : kws = [] := by simpa using h4
      subst hkw
      match args, h5 with
      | [z], h5 =>
        simp only [Bool.and_eq_true] at h5
        exact ti_rev (gl_of x h2) (x.blt _ h3) (ckE_ok a x h5.2.2 (by simpa using h5.2.1)) h5.1
    | .var _ | .con _ | .tup _ | .lst _ | .bin _ _ _ | .lrep _ _ | .neg _ | .cmp _ _ _ | .chain _ _ _ _ _ | .and _ _ | .or _ _ | .not _ | .ite _ _ _ | .idx _ _ | .sidx _ _ | .slc _ _ _ | .call _ _ | .bi _ _ | .isa _ _ | .mt _ _ _ | .comp _ _ _ _ | .comp2 _ _ _ _ _ _ _ | .lens _ | .maxd _ _ | .gcd _ _ _ => exact absurd rfl hi
termination_by (sizeOf m, 1)
theorem ckEs_ok (ms : List ME) {sc : Scope} {es : List Expr} {X : Cx} {W : WX} {A0 : Prot} (x : XOk P EA call X sc W) (h : ckEs P ms sc es = true) : PA X es (TAv X.K A0 EA W (evEs P.T call ms)) ∧ es.all notStar = true := by
  match ms with
  | [] =>
    cases es <;> simp only [ckEs, List.isEmpty_nil, List.isEmpty_cons, Bool.false_eq_true] at h
    exact ⟨ta_nil, rfl⟩
  | m :: ms =>
    cases es with
    | nil => simp only [ckEs, Bool.false_eq_true] at h
    | cons e es =>
      simp only [ckEs, Bool.and_eq_true] at h
      obtain ⟨⟨h1, h2⟩, h3⟩ := h
      obtain ⟨q1, q2⟩ := ckEs_ok ms (A0 := A0) (W := W) x h3
      exact ⟨ta_cons (ckE_ok m x h2.2 (by simpa using h2.1)) q1 (star_cons h1), by simp [h1, q2]⟩
termination_by (sizeOf ms, 2)
theorem ckAs_ok (io : List Nat) (n : Nat) (ms : List ME) {sc : Scope} {es : List Expr} {X : Cx} {W : WX} {A0 : Prot} (x : XOk P EA call X sc W) (h : ckAs P io n ms sc es = true) : PA X es (TAio X.K A0 EA W io n ms (evAs P.T call io n ms)) := by
  match ms with
  | [] =>
    cases es <;> simp only [ckAs, List.isEmpty_nil, List.isEmpty_cons, Bool.false_eq_true] at h
    exact tio_nil
  | m :: ms =>
    cases es with
    | nil => simp only [ckAs, Bool.false_eq_true] at h
    | cons e es =>
      simp only [ckAs, Bool.and_eq_true] at h
      obtain ⟨h1, h3⟩ := h
      have q := ckAs_ok io (n + 1) ms (A0 := A0) (W := W) x h3
      by_cases hc : io.contains n = true
      · rw [if_pos hc] at h1
        cases m <;> simp only [Bool.false_eq_true] at h1
        cases e <;> simp only [Bool.false_eq_true, Bool.and_eq_true, decide_eq_true_eq] at h1
        have e1 : ∀ j, evAs P.T call io n (.var j :: ms) = fun r => (lift (getM r j) r).bind fun _ r0 => (evAs P.T call io (n + 1) ms r0).bind fun ds r2 => match getM r2 j with
            | some d => .ok (d :: ds) r2
            | none => .bad := fun j => by
          funext r
          simp only [evAs, hc, if_true] <;> rfl
        rw [e1]
        exact tio_io hc (by rw [x.N]; exact h1.1.1) (vis_of x h1.1.2) (dbg1 h1.2).1 (dbg1 h1.2).2 q
      · rw [if_neg hc] at h1
        simp only [Bool.and_eq_true] at h1
        obtain ⟨h4, h5⟩ := h1
        have e1 : evAs P.T call io n (m :: ms) = fun r => (evE P.T call m r).bind fun d r1 => (evAs P.T call io (n + 1) ms r1).bind fun ds r2 => .ok (d :: ds) r2 := by
          funext r
          simp only [evAs, hc, if_false, Bool.false_eq_true]
        rw [e1]
        exact tio_cons (by simpa using hc) (ckE_ok m x h5.2 (by simpa using h5.1)) q h4
termination_by (sizeOf ms, 2)
theorem ckO_ok (m : Option ME) {sc : Scope} {e : Option Expr} {X : Cx} {W : WX} {A0 : Prot} (x : XOk P EA call X sc W) (h : ckO P m sc e = true) : PO X e (TOv X.K A0 EA W (evO P.T call m)) := by
  match m with
  | none =>
    cases e <;> simp only [ckO, Option.isNone_none, Option.isNone_some, Bool.false_eq_true] at h
    exact to_none
  | some m =>
    cases e <;> simp only [ckO, Bool.false_eq_true, Bool.and_eq_true] at h
    exact to_some (ckE_ok m x h.2 (by simpa using h.1))
termination_by (sizeOf m, 2)
theorem ckC_ok (m : Option ME) {sc : Scope} {es : List Expr} {X : Cx} (x : XOk P EA call X sc WNo) (h : ckC P m sc es = true) : PTs X es (TTy X.K EA (evC P.T call m)) := by
  match m with
  | none =>
    cases es <;> simp only [ckC, List.isEmpty_nil, List.isEmpty_cons, Bool.false_eq_true] at h
    exact tty_nil
  | some m =>
    match es, h with
    | [e], h =>
      simp only [ckC, Bool.and_eq_true] at h
      exact tty_of fun A0 => ckT_ok m x h.2 (by simpa using h.1)
termination_by (sizeOf m, 2)
end
theorem ckR_ok {a b : ME} {sc : Scope} {e : Expr} {X : Cx} {W : WX} {A0 : Prot} (x : XOk P EA call X sc W) (h : ckE P (.rng a b) sc e = true) (tg : Expr) :
    PI X tg e (TIr X.K A0 EA W fun r => (evE P.T call (.rng a b) r).bind fun x r1 => lift (itemsD x) r1) := by
  cases e <;> simp only [ckE, Bool.false_eq_true, Bool.and_eq_true] at h
  rename_i v args kws p
  obtain ⟨⟨⟨⟨h1, h2⟩, h3⟩, h4⟩, h5⟩ := h
  obtain ⟨pz, rfl⟩ := pname_eq h1
  have hkw : kws = [] := by simpa using h4
  subst hkw
  match args, h5 with
  | [z], h5 =>
    simp only [Bool.and_eq_true] at h5
    obtain ⟨⟨h6, h7⟩, h8⟩ := h5
    have q := ti_rngA (tg := tg) (pos := p) (p := pz) (gl_of x h2) (x.blt _ h3) (ckE_ok b (A0 := A0) (W := W) x h8.2 (by simpa using h8.1)) h7
    split at h6
    · have e := of_decide_eq_true h6
      subst e
      exact q
    · cases h6
  | [y, z], h5 =>
    simp only [Bool.and_eq_true] at h5
    obtain ⟨⟨⟨h6, h7⟩, h8⟩, h9⟩ := h5
    exact ti_rngB (gl_of x h2) (x.blt _ h3) (ckE_ok a x h8.2 (by simpa using h8.1)) (ckE_ok b x h9.2 (by simpa using h9.1)) h6 h7
end
end Cw
end

section
namespace Cw
open PySem PySem.Spec PyProof.Rows L2

section
variable {K : Fr} {A0 : Prot} {σ σ' : L2.St} {H H' : Hp} {r r' : Env} {Fs Fs' : List (Option Addr)}
theorem OwnL.rep {S S' : Addr → Prop} {a : Addr} {d : D} (h : OwnL K H S a d) (n : ¬ S' a) (m : ∀ x, S' x → S x) : Rep K H S' (.ref a) d := by
  obtain ⟨xs, ds, rfl, e, q⟩ := h
  exact .lst (.inl ⟨.inl e, n⟩) (q.mono fun x z => .inl (m x z))
/-- an own list becomes a value -/
theorem Good.frz1 (G : Good K A0 σ H r Fs) {i k : Nat} {d : D} (hi : r[i]? = some (.own k d)) : Good K A0 σ H (r.set i (.val d)) (Fs.set i none) where
  len := by simp [G.len]
  slen := by simp [G.slen]
  val := fun j e h => by
    rcases set_get h with ⟨rfl, hh⟩ | ⟨ne, h⟩
    · cases hh
      obtain ⟨_, a, h1, h2, h3, h4⟩ := G.own i k d hi
      refine ⟨_, h2, h4.rep (fun z => ?_) fun x z => Sv_set z⟩
      rcases z with z | z
      · exact h3 z
      · obtain ⟨j, hj⟩ := List.mem_iff_getElem?.mp z
        rcases set_get hj with ⟨_, e⟩ | ⟨ne, hj⟩
        · cases e
        · exact ne (G.inj _ _ _ h1 hj)
    · obtain ⟨w, h1, h2⟩ := G.val j e h
      exact ⟨w, h1, h2.mono fun a z => .inl (Sv_set z)⟩
  own := fun j k e h => by
    rcases set_get h with ⟨rfl, hh⟩ | ⟨ne, h⟩
    · cases hh
    · obtain ⟨e1, a, h1, h2, h3, h4⟩ := G.own j k e h
      exact ⟨e1, a, by rw [List.getElem?_set_ne ne]; exact h1, h2, h3, h4.mono fun a z => Sv_set z⟩
  chg := fun j e h => by
    rcases set_get h with ⟨rfl, hh⟩ | ⟨ne, h⟩
    · cases hh
    · obtain ⟨a, h1, h2, h3, h4⟩ := G.chg j e h
      exact ⟨a, by rw [List.getElem?_set_ne ne]; exact h1, h2, h3, h4.mono fun a z => Sv_set z⟩
  prt := fun j e h => by
    rcases set_get h with ⟨rfl, hh⟩ | ⟨ne, h⟩
    · cases hh
    · obtain ⟨a, h1, h2, h3⟩ := G.prt j e h
      exact ⟨a, h1, h2, h3.mono fun a z => Sv_set z⟩
  pal := fun a h => ⟨fun z => (G.pal a h).1 (inF_set z), (G.pal a h).2⟩
  inj := fun j k a h1 h2 => by
    rcases set_get h1 with ⟨_, h⟩ | ⟨_, h1⟩
    · cases h
    · rcases set_get h2 with ⟨_, h⟩ | ⟨_, h2⟩
      · cases h
      · exact G.inj j k a h1 h2
  emp := fun j a h => by
    rcases set_get h with ⟨_, h⟩ | ⟨ne, h⟩
    · cases h
    · rw [List.getElem?_set_ne ne]
      exact G.emp j a h
  al := G.al
/-- fewer places of our own -/
def Less (Fs' Fs : List (Option Addr)) : Prop := ∀ (i : Nat) (a : Addr), Fs'[i]? = some (some a) → Fs[i]? = some (some a)
theorem Less.refl : Less Fs Fs := fun _ _ h => h
theorem Less.trans {Fs'' : List (Option Addr)} (h : Less Fs'' Fs') (g : Less Fs' Fs) : Less Fs'' Fs := fun i a e => g i a (h i a e)
theorem Less.mem (h : Less Fs' Fs) {a : Addr} (z : inF Fs' a) : inF Fs a := by
  obtain ⟨i, hi⟩ := List.mem_iff_getElem?.mp z
  exact List.mem_of_getElem? (h i a hi)
theorem less_set {i : Nat} : Less (Fs.set i none) Fs := fun j a h => by
  rcases set_get h with ⟨_, e⟩ | ⟨_, h⟩
  · cases e
  · exact h
theorem Good.frz : ∀ {is : List Nat} {r : Env} {Fs : List (Option Addr)}, Good K A0 σ H r Fs → ∃ Fs', Good K A0 σ H (frz r is) Fs' ∧ Less Fs' Fs
  | [], r, Fs, G => ⟨Fs, G, Less.refl⟩
  | i :: is, r, Fs, G => by
    unfold Cw.frz
    split
    · rename_i k d e
      obtain ⟨Fs', G', l⟩ := (G.frz1 e).frz (is := is)
      exact ⟨Fs', G', l.trans less_set⟩
    · exact G.frz
def noF (Fs : List (Option Addr)) : List (Option Addr) := Fs.map fun _ => none
theorem inF_no {a : Addr} : ¬ inF (noF Fs) a := fun h => by
  obtain ⟨o, _, e⟩ := List.mem_map.mp h
  cases e
theorem noF_get {i : Nat} {a : Addr} : (noF Fs)[i]? ≠ some (some a) := fun h => inF_no (List.mem_of_getElem? h)
/-- all lists as values -/
theorem Good.frzA (G : Good K A0 σ H r Fs) : Good K ⟨fun a => A0 a ∧ ¬ inF Fs a, fun _ => False⟩ σ H (frzA r) (noF Fs) := by
  have sub : ∀ x, Sv ⟨fun a => A0 a ∧ ¬ inF Fs a, fun _ => False⟩ (noF Fs) x → Sv A0 Fs x := fun x z => z.elim (fun z => .inl z.1) fun z => (inF_no z).elim
  have nn : ∀ x, inF Fs x → ¬ Sv ⟨fun a => A0 a ∧ ¬ inF Fs a, fun _ => False⟩ (noF Fs) x := fun x h z => z.elim (fun z => z.2 h) inF_no
  have at_ : ∀ i : Nat, (Cw.frzA r)[i]? = (r[i]?).map frzS := fun i => List.getElem?_map ..
  refine ⟨?_, ?_, fun i d e => ?_, fun i k d e => ?_, fun i d e => ?_, fun i d e => ?_, fun a h => h.elim, fun i j a h => (noF_get h).elim, fun i a h => (noF_get h).elim, fun a h => G.al a h.1⟩
  · simp [noF, Cw.frzA, G.len]
  · simp [Cw.frzA, G.slen]
  all_goals
    rw [at_] at e
    cases q : r[i]? with
    | none => rw [q] at e; cases e
    | some x => ?_
  · rw [q] at e
    cases x <;> simp only [frzS, prtS, Option.map_some, Option.some.injEq, Slot.val.injEq, reduceCtorEq] at e
    · subst e
      obtain ⟨v, h1, h2⟩ := G.val i _ q
      exact ⟨v, h1, h2.mono fun a z => .inl (sub a z)⟩
    · subst e
      obtain ⟨_, a, h1, h2, h3, h4⟩ := G.own i _ _ q
      exact ⟨_, h2, h4.rep (nn a (List.mem_of_getElem? h1)) sub⟩
    · subst e
      obtain ⟨a, h1, h2, h3, h4⟩ := G.chg i _ q
      exact ⟨_, h2, h4.rep (nn a (List.mem_of_getElem? h1)) sub⟩
  all_goals
    rw [q] at e
    cases x <;> cases e
/-- all lists to be looked into -/
theorem Good.prtA (G : Good K A0 σ H r Fs) : Good K ⟨Sv A0 Fs, fun a => A0.p a ∨ inF Fs a⟩ σ H (prtA r) (noF Fs) := by
  have sub : ∀ x, Sv ⟨Sv A0 Fs, fun a => A0.p a ∨ inF Fs a⟩ (noF Fs) x → Sv A0 Fs x := fun x z => z.elim id fun z => (inF_no z).elim
  have at_ : ∀ i : Nat, (Cw.prtA r)[i]? = (r[i]?).map prtS := fun i => List.getElem?_map ..
  refine ⟨?_, ?_, fun i d e => ?_, fun i k d e => ?_, fun i d e => ?_, fun i d e => ?_, fun a h => ⟨inF_no, h.elim (fun h => (G.pal a h).2) fun h => G.alS a (.inr h)⟩, fun i j a h => (noF_get h).elim, fun i a h => (noF_get h).elim, G.alS⟩
  · simp [noF, Cw.prtA, G.len]
  · simp [Cw.prtA, G.slen]
  all_goals
    rw [at_] at e
    cases q : r[i]? with
    | none => rw [q] at e; cases e
    | some x => ?_
  · rw [q] at e
    cases x <;> simp only [frzS, prtS, Option.map_some, Option.some.injEq, Slot.val.injEq, reduceCtorEq] at e
    subst e
    obtain ⟨v, h1, h2⟩ := G.val i _ q
    exact ⟨v, h1, h2.mono fun a z => .inl (sub a z)⟩
  · rw [q] at e
    cases x <;> cases e
  · rw [q] at e
    cases x <;> cases e
  · rw [q] at e
    cases x <;> simp only [frzS, prtS, Option.map_some, Option.some.injEq, Slot.prt.injEq, reduceCtorEq] at e
    · subst e
      obtain ⟨_, a, h1, h2, h3, h4⟩ := G.own i _ _ q
      exact ⟨_, h2, .inr (List.mem_of_getElem? h1), h4.mono sub⟩
    · subst e
      obtain ⟨a, h1, h2, h3, h4⟩ := G.chg i _ q
      exact ⟨_, h2, .inr (List.mem_of_getElem? h1), h4.mono sub⟩
    · subst e
      obtain ⟨a, h1, h2, h3⟩ := G.prt i _ q
      exact ⟨a, h1, .inl h2, h3.mono sub⟩
/-- a new place, the rest as it was -/
theorem Good.addK (G : Good K A0 σ H r Fs) {p : Addr} (hp : H p = none) (kp : Keep (fun _ => False) H H') (hp' : H' p ≠ none) : Good K (A0.add p) σ H' r Fs := by
  have mn : ∀ a, Sv (A0.add p) Fs a → Sv A0 Fs a ∨ H a = none := fun a h => by
    rcases h with (h | rfl) | h
    · exact .inl (.inl h)
    · exact .inr hp
    · exact .inl (.inr h)
  have ow : ∀ {a d}, OwnL K H (Sv A0 Fs) a d → OwnL K H' (Sv (A0.add p) Fs) a d := fun {a d} ⟨xs, ds, e, h1, h2⟩ =>
    ⟨xs, ds, e, kp.1 _ _ h1 fun z => z, (h2.mono mn).keep kp fun _ z => z.elim⟩
  refine ⟨G.len, G.slen, fun i d e => ?_, fun i k' d e => ?_, fun i d e => ?_, fun i d e => let ⟨a, h1, h2, q⟩ := G.prt i d e; ⟨a, h1, h2, ow q⟩, fun a h => ⟨(G.pal a h).1, kp.2 a (G.pal a h).2⟩, G.inj, G.emp, fun a h => ?_⟩
  · obtain ⟨v, h, q⟩ := G.val i d e
    exact ⟨v, h, (q.mono mn).keep kp fun _ z => z.elim⟩
  · obtain ⟨ek, a, h1, h2, h3, q⟩ := G.own i k' d e
    refine ⟨ek, a, h1, h2, fun z => ?_, ow q⟩
    rcases z with z | rfl
    · exact h3 z
    · obtain ⟨xs, e'⟩ := G.ownAt h1
      rw [hp] at e'; cases e'
  · obtain ⟨a, h1, h2, h3, q⟩ := G.chg i d e
    exact ⟨a, h1, h2, .inl h3, ow q⟩
  · rcases h with h | rfl
    · exact kp.2 a (G.al a h)
    · exact hp'
theorem mixE_get : ∀ {r q : Env} {i : Nat}, r.length = q.length → (mixE r q)[i]? = match r[i]? with
    | some (.val d) => some (.val d)
    | some .non => some .non
    | some (.prt d) => some (.prt d)
    | _ => q[i]?
  | [], [], i, _ => by simp [mixE]
  | x :: r, y :: q, 0, h => by cases x <;> simp [mixE]
  | x :: r, y :: q, i + 1, h => by
    have ih := mixE_get (r := r) (q := q) (i := i) (by simpa using h)
    cases x <;> simpa [mixE] using ih
  | [], _ :: _, _, h => by simp at h
  | _ :: _, [], _, h => by simp at h
theorem mixE_len : ∀ {r q : Env}, r.length = q.length → (mixE r q).length = q.length
  | [], [], _ => rfl
  | x :: r, y :: q, h => by
    have ih := mixE_len (r := r) (q := q) (by simpa using h)
    cases x <;> simp [mixE, ih]
  | [], _ :: _, h => by simp at h
  | _ :: _, [], h => by simp at h
theorem shal_items {ds : List D} (h : shal (.list ds) = true) : imm.immAll ds = true := by
  simp only [shal] at h
  induction ds with
  | nil => rfl
  | cons d ds ih =>
    simp only [List.all_cons, Bool.and_eq_true] at h
    simp [imm.immAll, h.1, ih h.2]
/-- values as they were, lists as they are, apart from a new place p (its lists have only unchangeable items) -/
theorem Good.mix (G : Good K A0 σ H r Fs) (G' : Good K A0 σ H' r' Fs) (kp : Keep (inF Fs) H H') (hs : shalE r' = true) {p : Addr} (hp : H p = none) {xs : List V} (hp' : H' p = some (.lst xs)) :
    Good K (A0.add p) σ H' (mixE r r') Fs := by
  have hl : r.length = r'.length := by rw [← G.len, G'.len]
  have mn : ∀ a, Sv (A0.add p) Fs a → Sv A0 Fs a ∨ H a = none := fun a h => by
    rcases h with (h | rfl) | h
    · exact .inl (.inl h)
    · exact .inr hp
    · exact .inl (.inr h)
  have sh : ∀ {i : Nat} {k : Nat} {d : D}, (r'[i]? = some (.own k d) ∨ r'[i]? = some (.mut d)) → shal d = true := fun {i k d} h => by
    rcases h with h | h <;> exact List.all_eq_true.mp hs _ (List.mem_of_getElem? h)
  have ow : ∀ {a d}, shal d = true → OwnL K H' (Sv A0 Fs) a d → OwnL K H' (Sv (A0.add p) Fs) a d := fun {a d} hd ⟨ys, ds, e, h1, h2⟩ => by
    subst e
    refine ⟨ys, ds, rfl, h1, h2.imm (shal_items hd) fun a z => ?_⟩
    rcases z with (z | rfl) | z
    · exact .inl (.inl z)
    · exact .inr ⟨xs, hp'⟩
    · exact .inl (.inr z)
  refine ⟨?_, ?_, fun i d e => ?_, fun i k' d e => ?_, fun i d e => ?_, fun i d e => ?_, fun a h => G'.pal a h, G.inj, fun i a h => ?_, fun a h => ?_⟩
  · rw [mixE_len hl, G'.len]
  · rw [mixE_len hl, G'.slen]
  · rw [mixE_get hl] at e
    split at e
    · cases e
      rename_i q
      obtain ⟨v, h, q'⟩ := G.val i d q
      refine ⟨v, h, (q'.mono (S' := fun a => Sv A0 Fs a ∨ Sv (A0.add p) Fs a) fun a z => z.elim .inl (mn a)).keep kp (fun a z => .inl (.inr z)) |>.mono fun a z => .inl (.inr z)⟩
    · cases e
    · cases e
    · rename_i n1 n2 n3
      exfalso
      cases q : r[i]? with
      | none =>
        rw [List.getElem?_eq_none_iff] at q
        rw [List.getElem?_eq_none (by omega)] at e; cases e
      | some x =>
        cases x with
        | non => exact n2 q
        | val d => exact n1 _ q
        | prt d => exact n3 _ q
        | own k d0 =>
          obtain ⟨_, a, h1, _⟩ := G.own i k d0 q
          rcases G'.emp i a h1 with ⟨d', z⟩ | ⟨d', z⟩ <;> (rw [z] at e; cases e)
        | «mut» d0 =>
          obtain ⟨a, h1, _⟩ := G.chg i d0 q
          rcases G'.emp i a h1 with ⟨d', z⟩ | ⟨d', z⟩ <;> (rw [z] at e; cases e)
  · rw [mixE_get hl] at e
    split at e <;> first | cases e | skip
    obtain ⟨ek, a, h1, h2, h3, h4⟩ := G'.own i k' d e
    refine ⟨ek, a, h1, h2, fun z => ?_, ow (sh (.inl e)) h4⟩
    rcases z with z | rfl
    · exact h3 z
    · obtain ⟨ys, e'⟩ := G.ownAt h1
      rw [hp] at e'; cases e'
  · rw [mixE_get hl] at e
    split at e <;> first | cases e | skip
    obtain ⟨a, h1, h2, h3, h4⟩ := G'.chg i d e
    exact ⟨a, h1, h2, .inl h3, ow (sh (k := 0) (.inr e)) h4⟩
  · rw [mixE_get hl] at e
    split at e
    · cases e
    · cases e
    · cases e
      rename_i q
      obtain ⟨a, h1, h2, ys, ds, e1, e2, e3⟩ := G.prt i d q
      exact ⟨a, h1, h2, ys, ds, e1, kp.1 _ _ e2 (G.pal a h2).1, (e3.mono (S' := fun a => Sv A0 Fs a ∨ Sv (A0.add p) Fs a) fun a z => z.elim .inl (mn a)).keep kp (fun a z => .inl (.inr z)) |>.mono fun a z => .inl (.inr z)⟩
    · rename_i n1 n2 n3
      exfalso
      cases q : r[i]? with
      | none =>
        rw [List.getElem?_eq_none_iff] at q
        rw [List.getElem?_eq_none (by omega)] at e; cases e
      | some x =>
        cases x with
        | non => exact n2 q
        | val d => exact n1 _ q
        | prt d => exact n3 _ q
        | own k d0 =>
          obtain ⟨_, a, h1, _⟩ := G.own i k d0 q
          rcases G'.emp i a h1 with ⟨d', z⟩ | ⟨d', z⟩ <;> (rw [z] at e; cases e)
        | «mut» d0 =>
          obtain ⟨a, h1, _⟩ := G.chg i d0 q
          rcases G'.emp i a h1 with ⟨d', z⟩ | ⟨d', z⟩ <;> (rw [z] at e; cases e)
  · rw [mixE_get hl]
    have g := G.emp i a h
    have g' := G'.emp i a h
    rcases g with ⟨d, q⟩ | ⟨d, q⟩ <;> (rw [q]; exact g')
  · rcases h with h | rfl
    · exact G'.al a h
    · rw [hp']; exact fun z => nomatch z
end
end Cw
end

section
namespace Cw
open PySem PySem.Spec PyProof.Rows L2

structure Chn (A0 : Prot) (H H' : Hp) (Fs Fs' : List (Option Addr)) : Prop where
  kp : Keep (inF Fs) H H'
  nw : ∀ a, inF Fs' a → inF Fs a ∨ H a = none
  mt : ∀ (i : Nat) a, Fs'[i]? = some (some a) → A0 a → Fs[i]? = some (some a)
section
variable {K : Fr} {A0 : Prot} {EA : EAt} {W : WX} {σ : L2.St} {H H' H1 H2 : Hp} {r r' : Env} {Fs Fs' Fs1 Fs2 : List (Option Addr)}
theorem Chn.refl : Chn A0 H H Fs Fs := ⟨Keep.refl, fun _ h => .inl h, fun _ _ h _ => h⟩
theorem Chn.trans (h : Chn A0 H H1 Fs Fs1) (g : Chn A0 H1 H2 Fs1 Fs2) : Chn A0 H H2 Fs Fs2 where
  kp := ⟨fun a o e n => g.kp.1 a o (h.kp.1 a o e n) fun z => (h.nw a z).elim n (fun z => by rw [e] at z; cases z), fun a e => g.kp.2 a (h.kp.2 a e)⟩
  nw := fun a z => (g.nw a z).elim (h.nw a) fun z => .inr (by
    cases q : H a with
    | none => rfl
    | some o => exact absurd z (h.kp.2 a (by rw [q]; exact fun z => nomatch z)))
  mt := fun i a z y => h.mt i a (g.mt i a z y) y
theorem Chn.less (l : Less Fs' Fs) (k : Keep (inF Fs) H H') : Chn A0 H H' Fs Fs' := ⟨k, fun a z => .inl (l.mem z), fun i a z _ => l i a z⟩
theorem Chn.keep (k : Keep (inF Fs) H H') : Chn A0 H H' Fs Fs := Chn.less Less.refl k
def PMv (K : Fr) (A0 : Prot) (EA : EAt) (W : WX) {α : Type} (σ : L2.St) (Fs : List (Option Addr)) (H : Hp) (o : Out α) (R : α → Env → Prop) : Prop :=
  match o with
  | .ok a r' => R a r'
  | .exc x r' => ∀ cls dx H' Fs', Chn A0 H H' Fs Fs' → Good K A0 σ H' r' Fs' → EA x cls dx H' → W cls dx σ H'
  | .bad => False
theorem PMv.bind {α β : Type} {o : Out α} {g : α → Env → Out β} {R : β → Env → Prop} {R' : α → Env → Prop} (h : PMv K A0 EA W σ Fs H (o.bind g) R) (hR : ∀ a r', o = .ok a r' → PMv K A0 EA W σ Fs H (g a r') R → R' a r') : PMv K A0 EA W σ Fs H o R' := by
  cases o with
  | ok a r' => exact hR a r' rfl h
  | exc x r' => exact h
  | bad => exact h
theorem PMv.later {α : Type} {o : Out α} {R R' : α → Env → Prop} (h : PMv K A0 EA W σ Fs H o R) (k : Chn A0 H H' Fs Fs') (hR : ∀ a r', o = .ok a r' → R a r' → R' a r') : PMv K A0 EA W σ Fs' H' o R' := by
  cases o with
  | ok a r' => exact hR a r' rfl h
  | exc x r' => exact fun cls dx H2 Fs2 k2 g e => h cls dx H2 Fs2 (k.trans k2) g e
  | bad => exact h
theorem PMv.lift {α : Type} {o : Option α} {r : Env} {R : α → Env → Prop} (h : PMv K A0 EA W σ Fs H (lift o r) R) : ∃ d, o = some d ∧ R d r := by
  cases o with
  | none => exact h.elim
  | some d => exact ⟨d, rfl, h⟩
/-- a new list's part -/
def New1 (K : Fr) (A0 : Prot) (σ : L2.St) (H H' : Hp) (r : Env) (Fs : List (Option Addr)) (k : Nat) (v : V) (d : D) : Prop :=
  k = 1 → isMut d = true → ∃ a, v = .ref a ∧ H a = none ∧ OwnL K H' (fun x => Sv A0 Fs x ∨ x = a) a d ∧ Good K (A0.add a) σ H' r Fs
def TMv (K : Fr) (A0 : Prot) (EA : EAt) (W : WX) (k : Nat) (f : Env → Out D) : TE := fun σ H Q => ∃ r Fs, Good K A0 σ H r Fs ∧ PMv K A0 EA W σ Fs H (f r) fun d r1 =>
  ∀ v H' Fs1, Chn A0 H H' Fs Fs1 → Good K A0 σ H' r1 Fs1 → Rep K H' (Sv A0 Fs1) v d → New1 K A0 σ H H' r1 Fs1 k v d → Q v H'
def TTm (K : Fr) (A0 : Prot) (EA : EAt) (W : WX) (f : Env → Out Bool) : TT := fun σ H Q => ∃ r Fs, Good K A0 σ H r Fs ∧ PMv K A0 EA W σ Fs H (f r) fun b r1 =>
  ∀ H' Fs1, Chn A0 H H' Fs Fs1 → Good K A0 σ H' r1 Fs1 → Q b H'
def TIm (K : Fr) (A0 : Prot) (EA : EAt) (W : WX) (f : Env → Out (List D)) : TI := fun σ H R => ∃ r Fs, Good K A0 σ H r Fs ∧ PMv K A0 EA W σ Fs H (f r) fun xs r1 =>
  ∀ J H' Fs1, Chn A0 H H' Fs Fs1 → Good K A0 σ H' r1 Fs1 → ItIs K (Sv A0 Fs1) H' J xs → R J H'
def TEx (K : Fr) (EA : EAt) (W : WX) (k : Nat) (f : Env → Out D) : TE := fun σ H Q => ∃ A0, TEv K A0 EA W k f σ H Q
def TTx (K : Fr) (EA : EAt) (W : WX) (f : Env → Out Bool) : TT := fun σ H Q => ∃ A0, TTv K A0 EA W f σ H Q
def TIx (K : Fr) (EA : EAt) (W : WX) (f : Env → Out (List D)) : TI := fun σ H Q => ∃ A0, TIv K A0 EA W f σ H Q
theorem keepF {Fs : List (Option Addr)} (h : Keep (inF (noF Fs)) H H') : Keep (fun _ => False) H H' := h.weak fun _ z => inF_no z
/-- what cannot be changed is apart from all lists -/
theorem Good.immS (G : Good K A0 σ H r Fs) (kp : Keep (fun _ => False) H H') : ∀ x, Sv A0 Fs x → Sv ⟨fun a => A0 a ∧ ¬ inF Fs a, fun _ => False⟩ (noF Fs) x ∨ ∃ xs, H' x = some (.lst xs) := fun x h => by
  by_cases q : inF Fs x
  · obtain ⟨xs, e⟩ := G.lstF q
    exact .inr ⟨xs, kp.1 _ _ e fun z => z⟩
  · rcases h with h | h
    · exact .inl (.inl ⟨h, q⟩)
    · exact absurd h q
theorem imm_mut {d : D} (h : imm d = true) : isMut d = false := by cases d <;> simp_all [imm, isMut]
theorem shal_mut {d : D} (h : shal d = true) (n : imm d = false) : ∀ {K : Fr} {H : Hp} {S : Addr → Prop} {v : V}, Rep K H S v d → ∃ ds, d = .list ds := by
  intro K H S v q
  cases q <;> simp_all [imm, shal]
variable {T : Nat → Option Fn} {call : Nat → List D → OutC} {m : ME} {md : Md} {k ke : Nat}
theorem tm_imp {Q : VK} (hk : k = 1 → ke = 1) (h : TMv K A0 EA W k (evM T call k md m) σ H Q) : TEx K EA W ke (evE T call m) σ H Q := by
  obtain ⟨r, Fs, G, h⟩ := h
  cases md with
  | look =>
    refine ⟨_, frzA r, _, G.frzA, ?_⟩
    unfold evM at h
    cases e : evE T call m (frzA r) with
    | bad => rw [e] at h; exact h.elim
    | exc x r1 =>
      rw [e] at h
      exact fun cls dx H' kp g ea => h cls dx H' Fs (Chn.keep (kf (keepF kp))) (G.keep0 (keepF kp)) ea
    | ok d r1 =>
      rw [e] at h
      intro v H' kp g q
      have kp := keepF kp
      have h : PMv K A0 EA W σ Fs H (if (imm d || (k == 1 && shal d)) = true then .ok d r else .bad) _ := h
      by_cases hc : (imm d || (k == 1 && shal d)) = true
      · rw [if_pos hc] at h
        by_cases hi : imm d = true
        · exact h v H' Fs (Chn.keep (kf kp)) (G.keep0 kp) (q.1.imm hi (G.immS kp)) fun _ z => by rw [imm_mut hi] at z; cases z
        · have hi : imm d = false := by simpa using hi
          simp only [hi, Bool.false_or, Bool.and_eq_true, beq_iff_eq] at hc
          obtain ⟨hk1, hs⟩ := hc
          obtain ⟨ds, rfl⟩ := shal_mut hs hi q.1
          obtain ⟨a, xs, rfl, ha, hx, rs⟩ := q.2 (hk hk1) ds rfl
          have rs2 : Reps K H' (fun x => Sv A0 Fs x ∨ x = a) xs ds := rs.imm (shal_items hs) fun x z => z.elim (fun z => (G.immS kp x z).elim (fun z => .inl (.inl z)) .inr) fun e => .inl (.inr e)
          have rs' : Reps K H' (Sv A0 Fs) xs ds := rs2.mono fun x z => .inl (.inl z)
          refine h _ H' Fs (Chn.keep (kf kp)) (G.keep0 kp) (.lst (.inl ⟨.inl hx, fun z => G.alS a z ha⟩) rs') fun _ _ => ⟨a, rfl, ha, ⟨xs, ds, rfl, hx, rs2⟩, G.addK ha kp (by rw [hx]; exact fun z => nomatch z)⟩
      · rw [if_neg hc] at h; exact h.elim
  | keep is =>
    obtain ⟨Fs1, G1, l⟩ := G.frz (is := is)
    refine ⟨_, prtA (frz r is), _, G1.prtA, ?_⟩
    have h : PMv K A0 EA W σ Fs H ((evE T call m (prtA (frz r is))).as (frz r is)) _ := h
    cases e : evE T call m (prtA (frz r is)) with
    | bad => rw [e] at h; exact h.elim
    | exc x r1 =>
      rw [e] at h
      exact fun cls dx H' kp g ea => h cls dx H' Fs1 (Chn.less l (kf (keepF kp))) (G1.keep0 (keepF kp)) ea
    | ok d r1 =>
      rw [e] at h
      intro v H' kp g q
      have kp := keepF kp
      have sub : ∀ x, Sv A0 Fs1 x → Sv ⟨Sv A0 Fs1, fun a => A0.p a ∨ inF Fs1 a⟩ (noF Fs1) x := fun x z => .inl z
      refine h v H' Fs1 (Chn.less l (kf kp)) (G1.keep0 kp) (q.1.mono fun x z => .inl (sub x z)) fun hk1 hm => ?_
      obtain ⟨ds, rfl⟩ : ∃ ds, d = .list ds := by
        cases q.1 <;> simp_all [isMut]
      obtain ⟨a, xs, rfl, ha, hx, rs⟩ := q.2 (hk hk1) ds rfl
      exact ⟨a, rfl, ha, ⟨xs, ds, rfl, hx, rs.mono fun x z => .inl (z.elim (fun z => .inl (sub x z)) .inr)⟩, G1.addK ha kp (by rw [hx]; exact fun z => nomatch z)⟩
  | io is =>
    obtain ⟨Fs1, G1, l⟩ := G.frz (is := is)
    refine ⟨A0, frz r is, Fs1, G1, ?_⟩
    have h : PMv K A0 EA W σ Fs H ((evE T call m (frz r is)).bind fun d r1 => if k == 1 && isMut d then (if shalE r1 then .ok d (mixE (frz r is) r1) else .bad) else .ok d r1) _ := h
    cases e : evE T call m (frz r is) with
    | bad => simp only [e, Out.bind] at h; exact h.elim
    | exc x r1 =>
      simp only [e, Out.bind] at h
      exact fun cls dx H' kp g ea => h cls dx H' Fs1 (Chn.less l (kp.weak fun _ z => l.mem z)) g ea
    | ok d r1 =>
      simp only [e, Out.bind] at h
      intro v H' kp g q
      have c : Chn A0 H H' Fs Fs1 := Chn.less l (kp.weak fun _ z => l.mem z)
      by_cases hc : (k == 1 && isMut d) = true
      · rw [if_pos hc] at h
        simp only [Bool.and_eq_true, beq_iff_eq] at hc
        obtain ⟨hk1, hm⟩ := hc
        by_cases hs : shalE r1 = true
        · rw [if_pos hs] at h
          obtain ⟨ds, rfl⟩ : ∃ ds, d = .list ds := by
            cases q.1 <;> simp_all [isMut]
          obtain ⟨a, xs, rfl, ha, hx, rs⟩ := q.2 (hk hk1) ds rfl
          have gm := G1.mix g kp hs ha hx
          refine h _ H' Fs1 c (gm.dropA fun x hx' e' => ?_) q.1 fun _ _ => ⟨a, rfl, ha, ⟨xs, ds, rfl, hx, rs⟩, gm⟩
          subst e'
          exact G1.alS x (.inr hx') ha
        · rw [if_neg hs] at h; exact h.elim
      · rw [if_neg hc] at h
        exact h v H' Fs1 c g q.1 fun hk1 hm => absurd (by simp [hk1, hm]) hc
theorem tt_imp {Q : Bool → Hp → Prop} (h : TTm K A0 EA W (evT T call md m) σ H Q) : TTx K EA W (fun r => tru (evE T call m r)) σ H Q := by
  obtain ⟨r, Fs, G, h⟩ := h
  cases md with
  | look =>
    refine ⟨_, frzA r, _, G.frzA, ?_⟩
    unfold evT at h
    simp only
    cases e : tru (evE T call m (frzA r)) with
    | bad => rw [e] at h; exact h.elim
    | exc x r1 =>
      rw [e] at h
      exact fun cls dx H' kp g ea => h cls dx H' Fs (Chn.keep (kf (keepF kp))) (G.keep0 (keepF kp)) ea
    | ok b r1 =>
      rw [e] at h
      intro H' kp g
      exact h H' Fs (Chn.keep (kf (keepF kp))) (G.keep0 (keepF kp))
  | keep is =>
    obtain ⟨Fs1, G1, l⟩ := G.frz (is := is)
    refine ⟨_, prtA (frz r is), _, G1.prtA, ?_⟩
    have h : PMv K A0 EA W σ Fs H ((tru (evE T call m (prtA (frz r is)))).as (frz r is)) _ := h
    simp only
    cases e : tru (evE T call m (prtA (frz r is))) with
    | bad => rw [e] at h; exact h.elim
    | exc x r1 =>
      rw [e] at h
      exact fun cls dx H' kp g ea => h cls dx H' Fs1 (Chn.less l (kf (keepF kp))) (G1.keep0 (keepF kp)) ea
    | ok b r1 =>
      rw [e] at h
      intro H' kp g
      exact h H' Fs1 (Chn.less l (kf (keepF kp))) (G1.keep0 (keepF kp))
  | io is =>
    obtain ⟨Fs1, G1, l⟩ := G.frz (is := is)
    refine ⟨A0, frz r is, Fs1, G1, ?_⟩
    have h : PMv K A0 EA W σ Fs H (tru (evE T call m (frz r is))) _ := h
    simp only
    cases e : tru (evE T call m (frz r is)) with
    | bad => simp only [e] at h; exact h.elim
    | exc x r1 =>
      simp only [e] at h
      exact fun cls dx H' kp g ea => h cls dx H' Fs1 (Chn.less l (kp.weak fun _ z => l.mem z)) g ea
    | ok d r1 =>
      simp only [e] at h
      exact fun H' kp g => h H' Fs1 (Chn.less l (kp.weak fun _ z => l.mem z)) g
def TIrx (K : Fr) (EA : EAt) (W : WX) (f : Env → Out (List D)) : TI := fun σ H Q => ∃ A0, TIr K A0 EA W f σ H Q
/-- what a loop walks, lists seen as values: a range -/
theorem ti_impL {R : It → Hp → Prop} (h : TIm K A0 EA W (evI T call .look m) σ H R) : TIrx K EA W (fun r => (evE T call m r).bind fun x r1 => lift (itemsD x) r1) σ H R := by
  obtain ⟨r, Fs, G, h⟩ := h
  refine ⟨_, frzA r, _, G.frzA, ?_⟩
  unfold evI at h
  simp only
  cases e : ((evE T call m (frzA r)).bind fun x r1 => lift (itemsD x) r1) with
  | bad => rw [e] at h; exact h.elim
  | exc x r1 =>
    rw [e] at h
    exact fun cls dx H' kp g ea => h cls dx H' Fs (Chn.keep (kf (keepF kp))) (G.keep0 (keepF kp)) ea
  | ok xs r1 =>
    rw [e] at h
    intro J H' kp g it
    exact h J H' Fs (Chn.keep (kf (keepF kp))) (G.keep0 (keepF kp)) (it _)
/-- what a loop walks -/
theorem ti_imp {R : It → Hp → Prop} (hm : md ≠ .look) (h : TIm K A0 EA W (evI T call md m) σ H R) : TIx K EA W (fun r => (evE T call m r).bind fun x r1 => lift (itemsD x) r1) σ H R := by
  obtain ⟨r, Fs, G, h⟩ := h
  cases md with
  | look => exact absurd rfl hm
  | keep is =>
    obtain ⟨Fs1, G1, l⟩ := G.frz (is := is)
    refine ⟨_, prtA (frz r is), _, G1.prtA, ?_⟩
    have h : PMv K A0 EA W σ Fs H (((evE T call m (prtA (frz r is))).bind fun x r1 => lift (itemsD x) r1).as (frz r is)) _ := h
    simp only
    cases e : ((evE T call m (prtA (frz r is))).bind fun x r1 => lift (itemsD x) r1) with
    | bad => rw [e] at h; exact h.elim
    | exc x r1 =>
      rw [e] at h
      exact fun cls dx H' kp g ea => h cls dx H' Fs1 (Chn.less l (kf (keepF kp))) (G1.keep0 (keepF kp)) ea
    | ok xs r1 =>
      rw [e] at h
      intro J H' kp g it
      refine h J H' Fs1 (Chn.less l (kf (keepF kp))) (G1.keep0 (keepF kp)) ?_
      have e1 : (Sv ⟨Sv A0 Fs1, fun a => A0.p a ∨ inF Fs1 a⟩ (noF Fs1)) = Sv A0 Fs1 := by
        funext x
        exact propext ⟨fun z => z.elim id fun z => (inF_no z).elim, fun z => .inl z⟩
      rw [← e1]
      exact it
  | io is =>
    obtain ⟨Fs1, G1, l⟩ := G.frz (is := is)
    refine ⟨A0, frz r is, Fs1, G1, ?_⟩
    have h : PMv K A0 EA W σ Fs H ((evE T call m (frz r is)).bind fun x r1 => lift (itemsD x) r1) _ := h
    simp only
    cases e : ((evE T call m (frz r is)).bind fun x r1 => lift (itemsD x) r1) with
    | bad => simp only [e] at h; exact h.elim
    | exc x r1 =>
      simp only [e] at h
      exact fun cls dx H' kp g ea => h cls dx H' Fs1 (Chn.less l (kp.weak fun _ z => l.mem z)) g ea
    | ok d r1 =>
      simp only [e] at h
      exact fun J H' kp g it => h J H' Fs1 (Chn.less l (kp.weak fun _ z => l.mem z)) g it
end
end Cw
end

section
namespace Cw
open PySem PySem.Spec PyProof.Rows L2

def RetNew (K : Fr) (A0 : Prot) (H H' : Hp) (Fs : List (Option Addr)) (k : Nat) (v : V) (d : D) : Prop :=
  k = 1 → ∀ ds, d = .list ds → ∃ a xs, v = .ref a ∧ (H a = none ∨ (inF Fs a ∧ ¬ A0 a)) ∧ H' a = some (.lst xs) ∧ Reps K H' (fun x => A0 x ∨ x = a) xs ds
def PFv (K : Fr) (A0 : Prot) (EA : EAt) (W : WX) (Fs : List (Option Addr)) (H : Hp) (E : Ends) (o : Out Flow) : Prop :=
  match o with
  | .bad => False
  | .exc x r' => ∀ cls dx σ' H' Fs', Chn A0 H H' Fs Fs' → Good K A0 σ' H' r' Fs' → EA x cls dx H' → W cls dx σ' H'
  | .ok fl r' => ∀ σ' H' Fs', Chn A0 H H' Fs Fs' → Good K A0 σ' H' r' Fs' → match fl with
    | .nx => E.nx σ' H'
    | .brk => E.bk σ' H'
    | .cnt => E.ct σ' H'
    | .ret k d => ∀ v, Rep K H' A0.a v d → RetNew K A0 H H' Fs k v d → E.rt v H'
def TSv (K : Fr) (A0 : Prot) (EA : EAt) (W : WX) (f : Env → Out Flow) : TS := fun E σ H => ∃ r Fs, Good K A0 σ H r Fs ∧ PFv K A0 EA W Fs H E (f r)
section
variable {K : Fr} {A0 : Prot} {EA : EAt} {W : WX} {σ : L2.St} {H H' H1 H2 : Hp} {r r' : Env} {Fs Fs' Fs1 Fs2 : List (Option Addr)} {E : Ends}
theorem PFv.later {o : Out Flow} (h : PFv K A0 EA W Fs H E o) (c : Chn A0 H H1 Fs Fs1) : PFv K A0 EA W Fs1 H1 E o := by
  cases o with
  | bad => exact h
  | exc x r' => exact fun cls dx σ' H' Fs' c' g e => h cls dx σ' H' Fs' (c.trans c') g e
  | ok fl r' =>
    intro σ' H' Fs' c' g
    have q := h σ' H' Fs' (c.trans c') g
    cases fl with
    | nx => exact q
    | brk => exact q
    | cnt => exact q
    | ret k d =>
      intro v rv rn
      refine q v rv fun hk ds e => ?_
      obtain ⟨a, xs, e1, e2, e3, e4⟩ := rn hk ds e
      refine ⟨a, xs, e1, ?_, e3, e4⟩
      rcases e2 with e2 | ⟨e2, n⟩
      · left
        cases q : H a with
        | none => rfl
        | some o => exact absurd e2 (c.kp.2 a (by rw [q]; exact fun z => nomatch z))
      · exact (c.nw a e2).elim (fun z => .inr ⟨z, n⟩) .inl
/-- an expression's part of a statement -/
theorem PFv.val {α : Type} {o : Out α} {g : α → Env → Out Flow} (h : PFv K A0 EA W Fs H E (o.bind g)) {R : α → Env → Prop} (hR : ∀ a r', o = .ok a r' → PFv K A0 EA W Fs H E (g a r') → R a r') : PMv K A0 EA W σ Fs H o R := by
  cases o with
  | ok a r' => exact hR a r' rfl h
  | exc x r' => exact fun cls dx H' Fs' c g e => h cls dx σ H' Fs' c g e
  | bad => exact h
theorem PFv.lift {α : Type} {o : Option α} {r : Env} {g : α → Env → Out Flow} (h : PFv K A0 EA W Fs H E ((Cw.lift o r).bind g)) : ∃ d, o = some d ∧ PFv K A0 EA W Fs H E (g d r) := by
  cases o with
  | none => exact h.elim
  | some d => exact ⟨d, rfl, h⟩
theorem PFv.nx (h : PFv K A0 EA W Fs H E (.ok .nx r)) (c : Chn A0 H H' Fs Fs') (g : Good K A0 σ H' r Fs') : E.nx σ H' := h σ H' Fs' c g
theorem less_clr : ∀ {is : List Nat} {Fs : List (Option Addr)}, Less (clrF Fs is) Fs
  | [], _ => Less.refl
  | i :: is, Fs => (less_clr (is := is)).trans less_set
theorem Chn.sub (c : Chn A0 H H' Fs Fs1) (l : Less Fs2 Fs1) : Chn A0 H H' Fs Fs2 := c.trans (Chn.less l Keep.refl)
theorem Chn.rep {v : V} {d : D} (c : Chn A0 H H' Fs Fs1) (q : Rep K H (Sv A0 Fs) v d) : Rep K H' (Sv A0 Fs1) v d :=
  rep_later q (fun a z => z.elim (fun z => .inl (.inl z)) fun z => (c.nw a z).elim (fun z => .inl (.inr z)) .inr) c.kp sub_in
/-- a new list is stored -/
theorem Good.setO (G : Good K A0 σ H r Fs) {a : Addr} {d : D} (G' : Good K (A0.add a) σ H r Fs) (hn : ¬ A0 a) (hp : ¬ A0.p a) (o : OwnL K H (fun x => Sv A0 Fs x ∨ x = a) a d) (i : Nat) : Good K A0 (σ.set i (some (.ref a))) H (r.set i (.own 1 d)) (Fs.set i (some a)) := by
  have nF : ¬ inF Fs a := fun z => by
    obtain ⟨j, hj⟩ := List.mem_iff_getElem?.mp z
    rcases G.emp j a hj with ⟨d', q⟩ | ⟨d', q⟩
    · obtain ⟨_, b, h1, _, h3, _⟩ := G'.own j 1 d' q
      rw [hj] at h1; cases h1
      exact h3 (.inr rfl)
    · obtain ⟨b, h1, _, h3, _⟩ := G.chg j d' q
      rw [hj] at h1; cases h1
      exact hn h3
  have mem : ∀ x, inF (Fs.set i (some a)) x → x = a ∨ inF Fs x := fun x z => by
    obtain ⟨j, hj⟩ := List.mem_iff_getElem?.mp z
    rcases set_get hj with ⟨_, e⟩ | ⟨_, hj⟩
    · cases e; exact .inl rfl
    · exact .inr (List.mem_of_getElem? hj)
  have mn : ∀ x, Sv A0 (Fs.set i (some a)) x → Sv (A0.add a) Fs x := fun x z => by
    rcases z with z | z
    · exact .inl (.inl z)
    · rcases mem x z with z | z
      · exact .inl (.inr z)
      · exact .inr z
  have o' : OwnL K H (Sv A0 (Fs.set i (some a))) a d := o.mono fun x z => (mn x z).elim (fun z => z.elim (fun z => .inl (.inl z)) .inr) fun z => .inl (.inr z)
  have lt : ∀ {j : Nat} {e : Slot}, r[j]? = some e → j < σ.length := fun {j e} h => by rw [G.slen]; exact (List.getElem?_eq_some_iff.mp h).1
  refine ⟨by simp [G.len], by simp [G.slen], fun j e h => ?_, fun j k e h => ?_, fun j e h => ?_, fun j e h => ?_, fun x h => ⟨fun z => ?_, (G.pal x h).2⟩, fun j k x h1 h2 => ?_, fun j x h => ?_, G.al⟩
  · rcases set_get h with ⟨rfl, hh⟩ | ⟨ne, h⟩
    · cases hh
    · obtain ⟨w, h1, h2⟩ := G'.val j e h
      exact ⟨w, by rw [List.getElem?_set_ne ne]; exact h1, h2.mono fun x z => .inl (mn x z)⟩
  · rcases set_get h with ⟨rfl, hh⟩ | ⟨ne, h⟩
    · cases hh
      have hl : i < r.length := by
        by_cases hl : i < r.length
        · exact hl
        · rw [List.getElem?_eq_none (by simpa using hl)] at h; cases h
      exact ⟨rfl, a, List.getElem?_set_self (by rw [G.len]; exact hl), List.getElem?_set_self (by rw [G.slen]; exact hl), hn, o'⟩
    · obtain ⟨e1, b, h1, h2, h3, h4⟩ := G'.own j k e h
      exact ⟨e1, b, by rw [List.getElem?_set_ne ne]; exact h1, by rw [List.getElem?_set_ne ne]; exact h2, fun z => h3 (.inl z), h4.mono mn⟩
  · rcases set_get h with ⟨rfl, hh⟩ | ⟨ne, h⟩
    · cases hh
    · obtain ⟨b, h1, h2, h3, _⟩ := G.chg j e h
      obtain ⟨b', h1', _, _, h4⟩ := G'.chg j e h
      rw [h1] at h1'; cases h1'
      exact ⟨b, by rw [List.getElem?_set_ne ne]; exact h1, by rw [List.getElem?_set_ne ne]; exact h2, h3, h4.mono mn⟩
  · rcases set_get h with ⟨rfl, hh⟩ | ⟨ne, h⟩
    · cases hh
    · obtain ⟨b, h1, h2, h3⟩ := G'.prt j e h
      exact ⟨b, by rw [List.getElem?_set_ne ne]; exact h1, h2, h3.mono mn⟩
  · rcases mem x z with e | z
    · subst e; exact hp h
    · exact (G.pal x h).1 z
  · rcases set_get h1 with ⟨e1, q1⟩ | ⟨_, h1⟩
    · cases q1
      rcases set_get h2 with ⟨e2, _⟩ | ⟨_, h2⟩
      · exact e1.symm.trans e2
      · exact absurd (List.mem_of_getElem? h2) nF
    · rcases set_get h2 with ⟨_, q2⟩ | ⟨_, h2⟩
      · cases q2
        exact absurd (List.mem_of_getElem? h1) nF
      · exact G.inj j k x h1 h2
  · rcases set_get h with ⟨e1, q1⟩ | ⟨ne, h⟩
    · cases q1
      subst e1
      have hl : i < r.length := by
        by_cases hl : i < r.length
        · exact hl
        · rw [List.getElem?_eq_none (by simp [G.len]; omega)] at h; cases h
      exact .inl ⟨d, List.getElem?_set_self hl⟩
    · rw [List.getElem?_set_ne ne]
      exact G.emp j x h
end
end Cw
end

section
namespace Cw
open PySem PySem.Spec PyProof.Rows L2

section
variable {X : Cx} {A0 : Prot} {EA : EAt} {W : WX} {T : Nat → Option Fn} {call : Nat → List D → OutC} {m : ME} {md : Md} {k ke : Nat} {e : Expr} {es : List Expr} {pos : Pos} {st : Stmt} {rest a b : List Stmt}
theorem PS.imp {t t' : TS} (h : PS X st t) (i : ∀ E σ H, t' E σ H → t E σ H) : PS X st t' := ⟨fun pins s σ H E I q => h.run pins s σ H E I (i E σ H q)⟩
theorem PSs.imp {t t' : TS} (h : PSs X rest t) (i : ∀ E σ H, t' E σ H → t E σ H) : PSs X rest t' := ⟨fun pins s σ H E I q => h.run pins s σ H E I (i E σ H q)⟩
theorem ts_nil : PSs X [] (TSv X.K A0 EA W fun r => .ok .nx r) := PSs.imp pss_nil fun E σ H ⟨r, Fs, G, h⟩ => h σ H Fs Chn.refl G
def seqF (f g : Env → Out Flow) : Env → Out Flow := fun r => (f r).bind fun o r1 => match o with
    | .nx => g r1
    | o => .ok o r1
theorem ts_cons {f g : Env → Out Flow} (h1 : PS X st (TSv X.K A0 EA W f)) (h2 : PSs X rest (TSv X.K A0 EA W g)) : PSs X (st :: rest) (TSv X.K A0 EA W (seqF f g)) := by
  refine PSs.imp (pss_cons h1 h2) fun E σ H ⟨r, Fs, G, h⟩ => ⟨r, Fs, G, ?_⟩
  unfold seqF at h
  cases e : f r with
  | bad => rw [e] at h; exact h.elim
  | exc x r' => rw [e] at h; exact h
  | ok fl r' =>
    rw [e] at h
    intro σ' H' Fs' c g'
    cases fl with
    | nx => exact ⟨r', Fs', g', PFv.later (show PFv X.K A0 EA W Fs H E (g r') from h) c⟩
    | brk => exact h σ' H' Fs' c g'
    | cnt => exact h σ' H' Fs' c g'
    | ret k d => exact h σ' H' Fs' c g'
theorem ts_bot : PS X st (TSv X.K A0 EA W fun _ => .bad) := PS.imp ps_never fun E σ H ⟨r, Fs, G, h⟩ => h
theorem ts_pass (h : PS X st tNext) : PS X st (TSv X.K A0 EA W fun r => .ok .nx r) := PS.imp h fun E σ H ⟨r, Fs, G, h⟩ => h σ H Fs Chn.refl G
theorem ts_brk : PS X (.Break pos) (TSv X.K A0 EA W fun r => .ok .brk r) := PS.imp ps_break fun E σ H ⟨r, Fs, G, h⟩ => h σ H Fs Chn.refl G
theorem ts_cnt : PS X (.Continue pos) (TSv X.K A0 EA W fun r => .ok .cnt r) := PS.imp ps_continue fun E σ H ⟨r, Fs, G, h⟩ => h σ H Fs Chn.refl G
theorem ts_asg {i : Nat} (hk : k = 1 → ke = 1) (h : PS X st (tAsg (TEx X.K EA W ke (evE T call m)) (gName i))) :
    PS X st (TSv X.K A0 EA W fun r => (evM T call k md m r).bind fun d r1 => .ok .nx (r1.set i (if k == 1 && isMut d then .own 1 d else .val d))) := by
  refine PS.imp h fun E σ H ⟨r, Fs, G, h⟩ => ?_
  refine tm_imp (A0 := A0) hk ⟨r, Fs, G, PFv.val h fun d r1 _ h1 => fun v H' Fs1 c g q n => ?_⟩
  show E.nx (σ.set i (some v)) H'
  by_cases hc : (k == 1 && isMut d) = true
  · rw [if_pos hc] at h1
    simp only [Bool.and_eq_true, beq_iff_eq] at hc
    obtain ⟨a, rfl, ha, o, g'⟩ := n hc.1 hc.2
    have hn : ¬ A0 a := fun z => G.al a z ha
    have hp : ¬ A0.p a := fun z => (G.pal a z).2 ha
    refine h1.nx (Fs' := Fs1.set i (some a)) ?_ (g.setO g' hn hp o i)
    refine ⟨c.kp, fun x z => ?_, fun j x z y => ?_⟩
    · obtain ⟨j, hj⟩ := List.mem_iff_getElem?.mp z
      rcases set_get hj with ⟨_, e⟩ | ⟨_, hj⟩
      · cases e; exact .inr ha
      · exact c.nw x (List.mem_of_getElem? hj)
    · rcases set_get z with ⟨_, e⟩ | ⟨_, z⟩
      · cases e; exact absurd y hn
      · exact c.mt j x z y
  · rw [if_neg hc] at h1
    exact h1.nx (c.sub less_set) (g.setV q i)
theorem ts_asgT {t : Tg} (h : PS X st (tAsg (TEx X.K EA W ke (evE T call m)) (TGv X.K t))) :
    PS X st (TSv X.K A0 EA W fun r => (evM T call 0 md m r).bind fun d r1 => (lift (asgG t d r1) r1).bind fun r2 _ => .ok .nx r2) := by
  refine PS.imp h fun E σ H ⟨r, Fs, G, h⟩ => ?_
  refine tm_imp (A0 := A0) (by omega) ⟨r, Fs, G, PFv.val h fun d r1 _ h1 => fun v H' Fs1 c g q n => ?_⟩
  obtain ⟨r2, h2, h3⟩ := h1.lift
  exact ⟨A0, r1, Fs1, d, r2, g, q, h2, fun σ' g' _ _ => h3.nx (c.sub less_clr) g'⟩
def TAx (K : Fr) (EA : EAt) (W : WX) (f : Env → Out (List D)) : TA := fun σ H Q => ∃ A0, TAv K A0 EA W f σ H Q
theorem ts_par {i j : Nat} {x y : ME} (h : PS X st (tPar i j (TAx X.K EA W (evEs T call [x, y])))) :
    PS X st (TSv X.K A0 EA W fun r => ((evEs T call [x, y] (prtA r)).as r).bind fun ds r1 => match ds with
      | [u, w] => .ok .nx ((r1.set i (.val u)).set j (.val w))
      | _ => .bad) := by
  refine PS.imp h fun E σ H ⟨r, Fs, G, h⟩ => ?_
  refine ⟨_, prtA r, _, G.prtA, ?_⟩
  have h : PFv X.K A0 EA W Fs H E (((evEs T call [x, y] (prtA r)).as r).bind fun ds r1 => match ds with
      | [u, w] => .ok .nx ((r1.set i (.val u)).set j (.val w))
      | _ => .bad) := h
  cases e : evEs T call [x, y] (prtA r) with
  | bad => rw [e] at h; exact h.elim
  | exc x r1 =>
    rw [e] at h
    exact fun cls dx H' kp g ea => h cls dx σ H' Fs (Chn.keep (kf (keepF kp))) (G.keep0 (keepF kp)) ea
  | ok ds r1 =>
    rw [e] at h
    intro vs H' kp g q
    have kp := keepF kp
    match ds, h, q with
    | [u, w], h, .cons qu (.cons qw .nil) =>
      refine ⟨_, _, rfl, ?_⟩
      have h : PFv X.K A0 EA W Fs H E (.ok .nx ((r.set i (.val u)).set j (.val w))) := h
      refine h.nx (Fs' := (Fs.set i none).set j none) (Chn.sub (Chn.sub (Chn.keep (kf kp)) less_set) less_set) (((G.keep0 kp).setV (qu.mono fun x z => .inl (.inl z)) i).setV (qw.mono fun x z => .inl (.inl ?_)) j)
      exact z.elim (fun z => .inl z) (fun z => .inr (less_set.mem z))
    | [], h, q => exact h.elim
    | [_], h, q => exact h.elim
    | _ :: _ :: _ :: _, h, q => exact h.elim
theorem ts_ret (hk : k = 1 → ke = 1) (h : PE X e (TEx X.K EA W ke (evE T call m))) : PS X (.Return (some e) pos) (TSv X.K A0 EA W fun r => (evM T call k md m r).bind fun d r1 => .ok (.ret k d) r1) := by
  refine PS.imp (ps_ret h) fun E σ H ⟨r, Fs, G, h⟩ => ?_
  refine tm_imp (A0 := A0) hk ⟨r, Fs, G, PFv.val h fun d r1 _ h1 => fun v H' Fs1 c g q n => ?_⟩
  refine h1 σ H' Fs1 c g v (q.mono fun a z => .inl (.inl z)) fun hk ds e => ?_
  subst e
  obtain ⟨a, rfl, ha, ⟨xs, ds', e, hx, rs⟩, _⟩ := n hk rfl
  cases e
  exact ⟨a, xs, rfl, .inl ha, hx, rs.mono fun x z => .inl (z.elim (fun z => .inl (.inl z)) .inr)⟩
theorem ts_retN : PS X (.Return none pos) (TSv X.K A0 EA W fun r => .ok (.ret 0 .none) r) :=
  PS.imp ps_retN fun E σ H ⟨r, Fs, G, h⟩ => h σ H Fs Chn.refl G .non .non fun z => nomatch z
def retF (i : Nat) : Env → Out Flow := fun r => match r[i]? with
    | some (.own 1 d) => .ok (.ret 1 d) r
    | some (.val d) => .ok (.ret 0 d) r
    | _ => .bad
theorem ts_retv {i : Nat} {p : Pos} {x : Str} (hN : X.N[i]? = some x) (hv : Vis X.env.scope x) (hd : (x == ("__debug__" : Str)) = false) (hcd : (x == ("__classdict__" : Str)) = false) : PS X (.Return (some (.Name x p)) pos) (TSv X.K A0 EA W (retF i)) := by
  refine PS.imp (ps_ret (pe_var hN hv hd hcd)) fun E σ H ⟨r, Fs, G, h⟩ => ?_
  unfold retF at h
  split at h
  · rename_i d q
    obtain ⟨_, a, h1, h2, h3, h4⟩ := G.own i 1 d q
    refine ⟨_, h2, h σ H Fs Chn.refl G _ (h4.rep h3 fun x z => .inl z) fun _ ds e => ?_⟩
    obtain ⟨xs, ds', e', hx, rs⟩ := h4
    subst e'
    cases e
    refine ⟨a, xs, rfl, .inr ⟨List.mem_of_getElem? h1, h3⟩, hx, rs.mono fun x z => .inl ?_⟩
    rcases z with z | z
    · exact .inl z
    · subst z; exact .inr (List.mem_of_getElem? h1)
  · rename_i d q
    obtain ⟨v, h1, h2⟩ := G.val i d q
    exact ⟨v, h1, h σ H Fs Chn.refl G v (h2.mono fun x z => .inl (.inl z)) fun z => nomatch z⟩
  · exact h.elim
theorem ts_exp (hs : swapsWith e none pos.line X.env = pure false) (h : PE X e (TEx X.K EA W ke (evE T call m))) : PS X (.Expr e pos) (TSv X.K A0 EA W fun r => (evM T call 0 md m r).bind fun _ r1 => .ok .nx r1) := by
  refine PS.imp (ps_expr h hs) fun E σ H ⟨r, Fs, G, h⟩ => ?_
  exact tm_imp (A0 := A0) (by omega) ⟨r, Fs, G, PFv.val h fun d r1 _ h1 => fun v H' Fs1 c g q n => h1.nx c g⟩
theorem ts_if {c : Expr} {fa fb : Env → Out Flow} (hc : PT X c (TTx X.K EA W fun r => tru (evE T call m r))) (ha : PSs X a (TSv X.K A0 EA W fa)) (hb : PSs X b (TSv X.K A0 EA W fb)) :
    PS X (.If c a b pos) (TSv X.K A0 EA W fun r => (evT T call md m r).bind fun k r1 => if k then fa r1 else fb r1) := by
  refine PS.imp (ps_if hc ha hb) fun E σ H ⟨r, Fs, G, h⟩ => ?_
  refine tt_imp (A0 := A0) ⟨r, Fs, G, PFv.val h fun d r1 _ h1 => fun H' Fs1 c g => ?_⟩
  cases d with
  | true =>
    rw [if_pos rfl] at h1 ⊢
    exact ⟨r1, Fs1, g, h1.later c⟩
  | false =>
    rw [if_neg Bool.false_ne_true] at h1 ⊢
    exact ⟨r1, Fs1, g, h1.later c⟩
theorem loop_turn {fb : Env → Out Flow} {r2 : Env} {g : Env → Out Flow} {Fs : List (Option Addr)} {H : Hp} {E : Ends} {N : L2.St → Hp → Prop}
    (h : PFv X.K A0 EA W Fs H E ((fb r2).bind fun o r' => match o with
      | .nx => g r'
      | .cnt => g r'
      | .brk => .ok .nx r'
      | .ret k d => .ok (.ret k d) r'))
    (hN : ∀ r' σ' H' Fs', Chn A0 H H' Fs Fs' → Good X.K A0 σ' H' r' Fs' → PFv X.K A0 EA W Fs' H' E (g r') → N σ' H') : PFv X.K A0 EA W Fs H { E with nx := N, ct := N, bk := E.nx } (fb r2) := by
  cases e : fb r2 with
  | bad => rw [e] at h; exact h
  | exc x r' => rw [e] at h; exact h
  | ok fl r' =>
    rw [e] at h
    intro σ' H' Fs' c g'
    cases fl with
    | nx => exact hN r' σ' H' Fs' c g' (PFv.later (show PFv X.K A0 EA W Fs H E (g r') from h) c)
    | cnt => exact hN r' σ' H' Fs' c g' (PFv.later (show PFv X.K A0 EA W Fs H E (g r') from h) c)
    | brk => exact h σ' H' Fs' c g'
    | ret k d => exact h σ' H' Fs' c g'
theorem ts_for {t : Tg} {tg iter : Expr} {body : List Stmt} {fb : Env → Out Flow} {wi : TI} (hp : PassesOwn (model X.prog X.w) X.A X.env X.xe) (hc : X.calm = true) (hi : PI X tg iter wi)
    (hw : ∀ σ H R, TIm X.K A0 EA W (evI T call md m) σ H R → wi σ H R) (hg : PG X tg (TGv X.K t)) (hb : PSs X body (TSv X.K A0 EA W fb)) (hs : ∀ x, foldedSetIterable iter X.env x = pure x) :
    PS X (.For tg iter body [] pos) (TSv X.K A0 EA W fun r => (evI T call md m r).bind fun xs r1 => loopF (fun y rr => match asgG t y rr with
        | none => .bad
        | some r2 => fb r2) xs r1) := by
  refine PS.imp (ps_for hp hc hi hg hb hs) fun E σ H ⟨r, Fs, G, h⟩ => ?_
  refine hw _ _ _ ⟨r, Fs, G, PFv.val h fun xs r1 _ h1 => fun J H1 Fs1 c G1 it => ?_⟩
  generalize hf : (fun (y : D) (rr : Env) => (match asgG t y rr with
        | none => .bad
        | some r2 => fb r2 : Out Flow)) = f at h1
  refine ⟨fun i m σ H => m = xs.length - i ∧ i ≤ xs.length ∧ ∃ rr Fs', Good X.K A0 σ H rr Fs' ∧ Chn A0 H1 H Fs1 Fs' ∧ PFv X.K A0 EA W Fs' H E (loopF f (xs.drop i) rr),
    ⟨_, rfl, Nat.zero_le _, r1, Fs1, G1, Chn.refl, h1.later c⟩, ?_⟩
  rintro i m σ5 H5 ⟨rfl, hi, rr, Fs5, G5, c5, h5⟩
  have hS : ∀ a, Sv A0 Fs5 a → Sv A0 Fs1 a ∨ H1 a = none := fun a z => z.elim (fun z => .inl (.inl z)) fun z => (c5.nw a z).elim (fun z => .inl (.inr z)) .inr
  obtain ⟨hgo, hstop⟩ := it i H5 _ hS (c5.kp.weak sub_in) G5.alS
  by_cases hlt : i < xs.length
  · right
    obtain ⟨go, yl⟩ := hgo hlt
    refine ⟨go, fun σ H => ∃ rr Fs', Good X.K A0 σ H rr Fs' ∧ Chn A0 H1 H Fs1 Fs' ∧ PFv X.K A0 EA W Fs' H E (loopF f (xs.drop (i + 1)) rr), fun σ' H' ⟨rr, Fs', q⟩ => ⟨_, by omega, rfl, hlt, rr, Fs', q⟩, fun x H' hy => ?_⟩
    obtain ⟨kp, d, hd, rd⟩ := yl x H' hy
    have hdr : xs.drop i = d :: xs.drop (i + 1) := by
      rw [List.drop_eq_getElem_cons hlt]
      congr 1
      exact (List.getElem?_eq_some_iff.mp hd).2
    rw [hdr] at h5
    simp only [loopF] at h5
    have c6 : Chn A0 H5 H' Fs5 Fs5 := Chn.keep (kf kp)
    cases ha : asgG t d rr with
    | none => rw [← hf] at h5; simp only [ha] at h5; exact h5.elim
    | some r2 =>
      refine ⟨A0, rr, Fs5, d, r2, G5.keep0 kp, rd, ha, fun σ6 G6 _ _ => ⟨r2, _, G6, ?_⟩⟩
      have h6 : PFv X.K A0 EA W Fs5 H5 E ((fb r2).bind fun o r' => match o with
          | .nx => loopF f (xs.drop (i + 1)) r'
          | .cnt => loopF f (xs.drop (i + 1)) r'
          | .brk => .ok .nx r'
          | .ret k d => .ok (.ret k d) r') := by
        have e1 : f d rr = fb r2 := by rw [← hf]; simp only [ha]
        rw [e1] at h5
        exact h5
      have c7 : Chn A0 H5 H' Fs5 (clrF Fs5 (tgS t)) := c6.sub less_clr
      exact loop_turn (h6.later c7) fun r' σ' H7 Fs7 c8 g8 h8 => ⟨r', Fs7, g8, (c5.trans c7).trans c8, h8⟩
  · left
    have e : i = xs.length := by omega
    subst e
    rw [List.drop_length] at h5
    exact ⟨hstop (Nat.le_refl _), h5.nx Chn.refl G5⟩
theorem ts_while {c : Expr} {body : List Stmt} {fb : Env → Out Flow} {n : Nat} (hp : PassesOwn (model X.prog X.w) X.A X.env X.xe) (hc : PT X c (TTx X.K EA W fun r => tru (evE T call m r))) (hb : PSs X body (TSv X.K A0 EA W fb)) :
    PS X (.While c body [] pos) (TSv X.K A0 EA W fun r => loopW (fun rr => evT T call md m rr) fb n r) := by
  refine PS.imp (ps_while hp hc hb) fun E σ H ⟨r, Fs, G, h⟩ => ?_
  refine ⟨fun n σ H => ∃ rr Fs', Good X.K A0 σ H rr Fs' ∧ PFv X.K A0 EA W Fs' H E (loopW (fun rr => evT T call md m rr) fb n rr), ⟨n, r, Fs, G, h⟩, ?_⟩
  rintro n σ5 H5 ⟨rr, Fs5, G5, h5⟩
  cases n with
  | zero => exact h5.elim
  | succ n =>
    unfold loopW at h5
    refine tt_imp (A0 := A0) ⟨rr, Fs5, G5, PFv.val h5 fun d r1 _ h1 => fun H' Fs1 c g => ?_⟩
    cases d with
    | false =>
      rw [if_neg Bool.false_ne_true] at h1 ⊢
      exact h1.nx c g
    | true =>
      rw [if_pos rfl] at h1 ⊢
      refine ⟨fun σ H => ∃ rr Fs', Good X.K A0 σ H rr Fs' ∧ PFv X.K A0 EA W Fs' H E (loopW (fun rr => evT T call md m rr) fb n rr), fun σ' H' q => ⟨n, Nat.lt_succ_self n, q⟩, r1, Fs1, g, ?_⟩
      exact loop_turn (h1.later c) fun r' σ' H7 Fs7 c8 g8 h8 => ⟨r', Fs7, g8, h8⟩
theorem chn_put {H : Hp} {Fs : List (Option Addr)} {i : Nat} {p : Addr} {o : HO} (hF : Fs[i]? = some (some p)) : Chn A0 H (upd H p o) Fs Fs := Chn.keep (Keep.put (List.mem_of_getElem? hF))
/-- the list at a slot, changed -/
theorem put_list {σ : L2.St} {H : Hp} {r : Env} {Fs : List (Option Addr)} (G : Good X.K A0 σ H r Fs) {i : Nat} {p : Addr} {xs : List V} {ds : List D} (hF : Fs[i]? = some (some p)) (rs : Reps X.K H (Sv A0 Fs) xs ds) :
    Good X.K A0 σ (upd H p (.lst xs)) (putM r i (.list ds)) Fs :=
  G.put hF (Keep.put rfl) ⟨xs, ds, rfl, upd_same, rs.keep (M := fun a => a = p) (Keep.put rfl) fun a e => by rw [e]; exact .inr (List.mem_of_getElem? hF)⟩
theorem setD_eq {d k v d' : D} (h : setD d k v = some d') : ∃ xs i j, d = .list xs ∧ k = .int i ∧ ixN xs.length i = some j ∧ d' = .list (xs.set j v) := by
  cases d <;> cases k <;> simp only [setD, reduceCtorEq, Option.map_eq_some_iff] at h
  obtain ⟨j, h1, h2⟩ := h
  exact ⟨_, _, j, rfl, rfl, h1, h2.symm⟩
theorem ts_set {i : Nat} {mk : ME} {kk : Nat} {x : Str} {ix : Expr} {p : Pos}
    (hN : X.N[i]? = some x) (hv : Vis X.env.scope x) (hd : (x == ("__debug__" : Str)) = false) (hcd : (x == ("__classdict__" : Str)) = false)
    (h : PE X e (TEx X.K EA W ke (evE T call m))) (hk : PE X ix (TEx X.K EA W kk (evE T call mk))) {tp : Pos} (hs : swapsWithSole [.Subscript (.Name x p) ix tp] e pos.line X.env = pure false) (hw : swappedStores [.Subscript (.Name x p) ix tp] e X.env = pure none)
    (ha : ∀ v, assign (.Subscript (.Name x p) ix tp) X.env v = (do
      let ov ← holding [v] (eval (.Name x p) X.env)
      let iv ← holding [v, ov] (eval ix X.env)
      standAt tp
      holding [v, ov, iv] (setItem ov iv v)
      release [v, ov, iv] [])) :
    PS X (.Assign [.Subscript (.Name x p) ix tp] e pos) (TSv X.K A0 EA W fun r => (evM T call 0 md m r).bind fun v r1 => (lift (getM r1 i) r1).bind fun _ r2 => (evM T call 0 (.keep []) mk r2).bind fun k r3 =>
      (lift (getM r3 i) r3).bind fun d r4 => (lift (setD d k v) r4).bind fun d' r5 => .ok .nx (putM r5 i d')) := by
  refine PS.imp (ps_asg h (pg_sub (pe_var hN hv hd hcd) hk set_list ha) hs hw) fun E σ H ⟨r, Fs, G, h⟩ => ?_
  refine tm_imp (A0 := A0) (by omega) ⟨r, Fs, G, PFv.val h fun dv r1 _ h1 => fun v H1 Fs1 c1 g1 q1 _ => ?_⟩
  obtain ⟨d0, e0, h2⟩ := h1.lift
  obtain ⟨q, hσ, hF1, _⟩ := getM_at g1 e0
  refine ⟨_, hσ, ?_⟩
  refine tm_imp (A0 := A0) (by omega) ⟨r1, Fs1, g1, PFv.val (h2.later c1) fun dk r3 _ h3 => fun vk H3 Fs3 c3 g3 q3 _ => ?_⟩
  obtain ⟨d1, e1, h4⟩ := h3.lift
  obtain ⟨d', e2, h5⟩ := h4.lift
  obtain ⟨q', hσ', hF3, o3⟩ := getM_at g3 e1
  rw [hσ] at hσ'
  cases hσ'
  obtain ⟨ds, ki, j, rfl, rfl, hj, rfl⟩ := setD_eq e2
  obtain ⟨xs, ds', e', hx, rs⟩ := o3
  cases e'
  have rv := c3.rep q1
  exact ⟨q, xs, ki, j, rfl, rep_int q3, hx, by rw [rs.length]; exact hj, h5.nx (c3.trans (chn_put hF3)) (put_list g3 hF3 (rs.set j rv))⟩
theorem appD_eq {d v d' : D} (h : appD d v = some d') : ∃ xs, d = .list xs ∧ xs.length < LIM ∧ d' = .list (xs ++ [v]) := by
  cases d <;> simp only [appD, reduceCtorEq, Option.ite_none_right_eq_some, Option.some.injEq] at h
  exact ⟨_, rfl, h.1, h.2.symm⟩
theorem ts_app {i : Nat} {x : Str} {p ap cp : Pos} (hN : X.N[i]? = some x) (hv : Vis X.env.scope x) (hd : (x == ("__debug__" : Str)) = false) (hcd : (x == ("__classdict__" : Str)) = false)
    (h : PE X e (TEx X.K EA W ke (evE T call m))) (hs : notStar e = true) (hline : (ap.endLine == cp.line) = true) :
    PS X (.Expr (.Call (.Attribute (.Name x p) "append" ap) [e] [] cp) pos) (TSv X.K A0 EA W fun r => (lift (getM r i) r).bind fun _ r => (evM T call 0 md m r).bind fun v r1 => (lift (getM r1 i) r1).bind fun d r2 => (lift (appD d v) r2).bind fun d' r3 => .ok .nx (putM r3 i d')) := by
  refine PS.imp (ps_expr (pe_bm (T := "list") (id := "list.append") F.plainAttrs_list F.slot_list_append (by rfl) mt_append (pe_var hN hv hd hcd) (pa_cons h pa_nil (star_cons hs)) (by rfl) (by rw [star_cons hs]; rfl) hline (star_cons hs) (by rfl)) (by rfl)) fun E σ H ⟨r, Fs, G, h⟩ => ?_
  obtain ⟨d0, e0, h1⟩ := h.lift
  obtain ⟨q, hσ, hF, o0⟩ := getM_at G e0
  refine ⟨_, hσ, ?_, ?_⟩
  · obtain ⟨xs, ds, _, hx, _⟩ := o0
    exact .inl ⟨rfl, xs, .inl (.inl hx)⟩
  refine tm_imp (A0 := A0) (by omega) ⟨r, Fs, G, PFv.val h1 fun dv r1 _ h2 => fun v H1 Fs1 c1 g1 q1 _ => ?_⟩
  obtain ⟨d1, e1, h3⟩ := h2.lift
  obtain ⟨d', e2, h4⟩ := h3.lift
  obtain ⟨q', hσ', hF1, o1⟩ := getM_at g1 e1
  rw [hσ] at hσ'
  cases hσ'
  obtain ⟨ds, rfl, hl, rfl⟩ := appD_eq e2
  obtain ⟨xs, ds', e', hx, rs⟩ := o1
  cases e'
  exact ⟨q, xs, v, rfl, rfl, hx, by rw [rs.length, ← LIM_eq]; exact hl, h4.nx (c1.trans (chn_put hF1)) (put_list g1 hF1 (rs.append (.cons q1 .nil)))⟩
theorem inplD_eq {op : BOp} {x y z : D} (h : inplD op x y = some z) : ∃ i j, x = .int i ∧ y = .int j ∧ ((op = .add ∧ z = .int (i + j)) ∨ (op = .sub ∧ z = .int (i - j))) := by
  cases op <;> cases x <;> cases y <;> simp only [inplD, reduceCtorEq, Option.some.injEq] at h
  · exact ⟨_, _, rfl, rfl, .inl ⟨rfl, h.symm⟩⟩
  · exact ⟨_, _, rfl, rfl, .inr ⟨rfl, h.symm⟩⟩
/-- += and -= on ints -/
def ipD (op : BOp) : TIp := fun x y H Q => ∃ i j, x = .int i ∧ y = .int j ∧ ((op = .add ∧ Q (.int (i + j)) H) ∨ (op = .sub ∧ Q (.int (i - j)) H))
theorem ip_d (op : BOp) : PIp X (opOf op) (ipD op) := by
  intro pins s σ H x y v u Q I r1 r2 ⟨i, j, e1, e2, h⟩
  rcases h with ⟨rfl, q⟩ | ⟨rfl, q⟩
  · exact ip_add pins s σ H x y v u Q I r1 r2 ⟨i, j, e1, e2, q⟩
  · exact ip_sub pins s σ H x y v u Q I r1 r2 ⟨i, j, e1, e2, q⟩
theorem ts_aug {i : Nat} {op : BOp} {x : Str} {p : Pos} (hnd : X.N.Nodup) (hT : TgName X i x) (h : PE X e (TEx X.K EA W ke (evE T call m))) :
    PS X (.AugAssign (.Name x p) (opOf op) e pos) (TSv X.K A0 EA W fun r => (lift (getV r i) r).bind fun x r1 => (evM T call 0 md m r1).bind fun y r2 => (lift (inplD op x y) r2).bind fun z r3 => .ok .nx (r3.set i (.val z))) := by
  refine PS.imp (ps_aug hnd hT.at_ hT.loc h (ip_d op) hT.fn) fun E σ H ⟨r, Fs, G, h⟩ => ?_
  obtain ⟨d, hd, h1⟩ := h.lift
  have e : r[i]? = some (.val d) := by
    unfold getV at hd
    split at hd
    · cases hd; assumption
    · cases hd
  obtain ⟨v, hv, q⟩ := G.val i d e
  refine ⟨v, hv, tm_imp (A0 := A0) (by omega) ⟨r, Fs, G, PFv.val h1 fun dy r1 _ h2 => fun w H1 Fs1 c1 g1 q1 _ => ?_⟩⟩
  obtain ⟨z, hz, h3⟩ := h2.lift
  obtain ⟨a, b, rfl, rfl, hz2⟩ := inplD_eq hz
  refine ⟨a, b, rep_int q, rep_int q1, ?_⟩
  rcases hz2 with ⟨ho, rfl⟩ | ⟨ho, rfl⟩
  · exact .inl ⟨ho, h3.nx (c1.sub less_set) (g1.setV (.int _) i)⟩
  · exact .inr ⟨ho, h3.nx (c1.sub less_set) (g1.setV (.int _) i)⟩
theorem get_list : PGet X (rIxL X.K) := by
  intro pins s σ H o i ov iv Q I ro ri h
  obtain ⟨p, xs, k, z, rfl, rfl, hq, he, q⟩ := h
  cases ro
  obtain ⟨t, rfl⟩ := ri
  obtain ⟨its, r, pl, hz⟩ := I.list hq
  obtain ⟨j, h1, h2, h3, h4, h5⟩ := atI_get he
  obtain ⟨w, ew, rw'⟩ := r.get h2
  have hl := r.length
  have hn := line63
  have fin : EP X pins σ Q w s := ⟨z, H, I, rw', q⟩
  by_cases h0 : 0 ≤ k
  · have hj : k.toNat = j := by
      rw [seqIndex_of h0 h5] at h1
      exact Option.some.inj h1
    exact wpAny_getItem_list pl.isList h0 (by omega) (by rw [hj]; simpa using ew) fin
  · have hj : (k + (its.toArray.size : Int)).toNat = j := by
      rw [seqIndex_neg (by omega) h4] at h1
      rw [List.size_toArray, ← hl]
      exact Option.some.inj h1
    exact wpAny_getItem_list_neg pl.isList (by omega) (by rw [List.size_toArray] <;> omega) (by omega) (by rw [hj]; simpa using ew) fin
theorem ts_augS {i : Nat} {mk : ME} {kk : Nat} {op : BOp} {x : Str} {ix : Expr} {p tp : Pos}
    (hN : X.N[i]? = some x) (hv : Vis X.env.scope x) (hd : (x == ("__debug__" : Str)) = false) (hcd : (x == ("__classdict__" : Str)) = false)
    (h : PE X e (TEx X.K EA W ke (evE T call m))) (hk : PE X ix (TEx X.K EA W kk (evE T call mk)))
    (ha : ∀ ov iv new, augStore ix ov iv new = (do holding [new, ov, iv] (setItem ov iv new); release [new, ov, iv] []; pure .next)) :
    PS X (.AugAssign (.Subscript (.Name x p) ix tp) (opOf op) e pos) (TSv X.K A0 EA W fun r => (lift (getM r i) r).bind fun _ r => (evM T call 0 (.keep []) mk r).bind fun k r1 => (lift (getM r1 i) r1).bind fun d r2 => (lift (idxD d k) r2).bind fun x r3 =>
      (evM T call 0 md m r3).bind fun y r4 => (lift (inplD op x y) r4).bind fun z r5 => (lift (getM r5 i) r5).bind fun d2 r6 =>
        (lift (setD d2 k z) r6).bind fun d' r7 => .ok .nx (putM r7 i d')) := by
  refine PS.imp (ps_augS (pe_var hN hv hd hcd) hk get_list h (ip_d op) set_list ha) fun E σ H ⟨r, Fs, G, h⟩ => ?_
  obtain ⟨d0, e0, h1⟩ := h.lift
  obtain ⟨q, hσ, hF, o0⟩ := getM_at G e0
  refine ⟨_, hσ, tm_imp (A0 := A0) (by omega) ⟨r, Fs, G, PFv.val h1 fun dk r1 _ h2 => fun vk H1 Fs1 c1 g1 q1 _ => ?_⟩⟩
  obtain ⟨d1, e1, h3⟩ := h2.lift
  obtain ⟨dx, e2, h4⟩ := h3.lift
  obtain ⟨q', hσ', hF1, o1⟩ := getM_at g1 e1
  rw [hσ] at hσ'
  cases hσ'
  obtain ⟨xs, ds, rfl, hx, rs⟩ := o1
  obtain ⟨ki, rfl⟩ : ∃ ki, dk = .int ki := by cases dk <;> simp_all [idxD]
  simp only [idxD] at e2
  obtain ⟨j, ej, e3⟩ := atI_eq e2
  obtain ⟨w, h5, h6⟩ := rs.get e3
  refine ⟨q, xs, ki, w, rfl, rep_int q1, .inl (.inl hx), atI_of (by rw [rs.length]; exact ej) h5, ?_⟩
  refine tm_imp (A0 := A0) (by omega) ⟨r1, Fs1, g1, PFv.val (h4.later c1) fun dy r4 _ h7 => fun vy H4 Fs4 c4 g4 q4 _ => ?_⟩
  obtain ⟨z, hz, h8⟩ := h7.lift
  obtain ⟨d2, e4, h9⟩ := h8.lift
  obtain ⟨d', e5, h10⟩ := h9.lift
  obtain ⟨a, b, rfl, rfl, hz2⟩ := inplD_eq hz
  obtain ⟨q', hσ', hF4, o4⟩ := getM_at g4 e4
  rw [hσ] at hσ'
  cases hσ'
  obtain ⟨ds4, ki', j4, rfl, ek, hj4, rfl⟩ := setD_eq e5
  cases ek
  obtain ⟨xs4, ds4', e', hx4, rs4⟩ := o4
  cases e'
  refine ⟨a, b, rep_int h6, rep_int q4, ?_⟩
  rcases hz2 with ⟨ho, rfl⟩ | ⟨ho, rfl⟩
  · exact .inl ⟨ho, q, xs4, ki, j4, rfl, rep_int q1, hx4, by rw [rs4.length]; exact hj4, h10.nx (c4.trans (chn_put hF4)) (put_list g4 hF4 (rs4.set j4 (.int _)))⟩
  · exact .inr ⟨ho, q, xs4, ki, j4, rfl, rep_int q1, hx4, by rw [rs4.length]; exact hj4, h10.nx (c4.trans (chn_put hF4)) (put_list g4 hF4 (rs4.set j4 (.int _)))⟩
end
end Cw
end

section
namespace Cw
open PySem PySem.Spec PyProof.Rows L2

def noComp : Expr → Bool
  | .ListComp .. => false
  | .SetComp .. => false
  | .DictComp .. => false
  | _ => true
def isRngE : ME → Bool
  | .rng .. => true
  | _ => false
def isLook : Md → Bool
  | .look => true
  | _ => false
def kOk (P : CkP) (k : Nat) (m : ME) : Bool := !(k == 1) || frE P m == 1
def nmOk (P : CkP) (sc : Scope) (i : Nat) (x : Str) : Bool := decide (P.N[i]? = some x) && vis sc x && noDbg x
/-- a, b = c, d with plain names of one line -/
def parOk (N : List Str) (sc : Scope) (i j : Nat) (x y : Str) (px py : Pos) (e1 e2 : Expr) : Bool :=
  decide (N[i]? = some x) && decide (N[j]? = some y) && decide (i ≠ j) && decide (x ≠ y) && decide (sc.names.lookup x = some .local) && decide (sc.names.lookup y = some .local) && (px.line == py.line) && notStar e1 && notStar e2 && !(foldedForSure 8 e1 && foldedForSure 8 e2) && !(constantsAlone 8 e1 && constantsAlone 8 e2)
def isStr : Expr → Bool
  | .Starred .. => true
  | _ => false
theorem star_f {e : Expr} (h : notStar e = true) : isStr e = false := by
  cases e <;> first | rfl | (simp [notStar] at h)
theorem swapped_par {x y : Str} {px py pt : Pos} {kt k2 : _} {pt2 : Pos} {e1 e2 : Expr} {env : PySem.Env} (hk : env.blockKind = .function) (hx : env.kindOf x = some .local) (hy : env.kindOf y = some .local) (hl : (px.line == py.line) = true) (hxy : x ≠ y) (h1 : notStar e1 = true) (h2 : notStar e2 = true) (hf : (foldedForSure 8 e1 && foldedForSure 8 e2) = false) (hc : (constantsAlone 8 e1 && constantsAlone 8 e2) = false) :
    swappedStores [.Tuple [.Name x px, .Name y py] kt pt] (.Tuple [e1, e2] k2 pt2) env = pure (some [x, y]) := by
  have hl' : py.line = px.line := (eq_of_beq hl).symm
  have hyx : (y == x) = false := by
    rw [beq_eq_false_iff_ne]
    exact fun e => hxy e.symm
  have hd : ([x, y] : List Str).eraseDups = [x, y] := by
    simp [List.eraseDups_cons, hyx]
  have hf' : [e1, e2].all (foldedForSure 8) = false := by simpa using hf
  have hc' : [e1, e2].all (constantsAlone 8) = false := by simpa using hc
  have hs : ([e1, e2].any isStr) = false := by
    simp only [List.any_cons, List.any_nil, star_f h1, star_f h2, Bool.or_self]
  have hn : ([Expr.Name x px, Expr.Name y py].filterMap fun
    | .Name id pos => if env.kindOf id == some .local && pos.line == px.line then some id else none
    | _ => none) = [x, y] := by
    simp [List.filterMap_cons, hx, hy, hl']
  have e0 : swappedStores [.Tuple [.Name x px, .Name y py] kt pt] (.Tuple [e1, e2] k2 pt2) env =
    (if (env.blockKind != ScopeKind.function) = true then pure none else if ([e1, e2].any isStr) = true then pure none else
      if (([Expr.Name x px, Expr.Name y py].filterMap fun
    | .Name id pos => if env.kindOf id == some .local && pos.line == px.line then some id else none
    | _ => none).length != 2 || (([Expr.Name x px, Expr.Name y py].filterMap fun
    | .Name id pos => if env.kindOf id == some .local && pos.line == px.line then some id else none
    | _ => none).eraseDups.length != ([Expr.Name x px, Expr.Name y py].filterMap fun
    | .Name id pos => if env.kindOf id == some .local && pos.line == px.line then some id else none
    | _ => none).length)) = true then pure none else if ([e1, e2].all (foldedForSure 8)) = true then pure none else
      if ([e1, e2].all (constantsAlone 8)) = true then (do unsupported "assign.tuple-of-constant-expressions:order-of-the-stores"; pure (some ([Expr.Name x px, Expr.Name y py].filterMap fun
    | .Name id pos => if env.kindOf id == some .local && pos.line == px.line then some id else none
    | _ => none))) else pure (some ([Expr.Name x px, Expr.Name y py].filterMap fun
    | .Name id pos => if env.kindOf id == some .local && pos.line == px.line then some id else none
    | _ => none))) := rfl
  rw [e0, hn, hd, hf', hc', hs, hk]
  rfl
/-- a tuple of constants -/
def foldT : Expr → Bool
  | .Tuple el _ _ => el.all (foldedForSure 8)
  | _ => false
theorem sw_none {t e : Expr} {env : PySem.Env} (h : (!isTupE e || foldT e) = true) : swappedStores [t] e env = pure none := by
  cases e <;> first | (cases t <;> rfl) | skip
  rename_i el k p
  have hf : el.all (foldedForSure 8) = true := by simpa [isTupE, foldT] using h
  unfold swappedStores
  cases t <;> first | rfl | skip
  all_goals
    dsimp only
    split
    · rfl
    · split
      · rfl
      · split
        · rfl
        · first | rfl | rw [if_pos hf]
mutual
def ckS (P : CkP) (sc : Scope) : MS → Stmt → Bool
  | .asg i k _ m, s => match s with
    | .Assign ts e _ => (match ts with
      | [t] => (match t with
        | .Name x _ => okTg P.N sc i x && kOk P k m && (!isIt m && ckE P m sc e)
        | _ => false)
      | _ => false)
    | _ => false
  | .asgT is _ m, s => match s with
    | .Assign ts e _ => (match ts with
      | [t] => tgIs (okTg P.N sc) (.tup (is.map .nm)) t && (!isTupE e || foldT e) && (!isIt m && ckE P m sc e)
      | _ => false)
    | _ => false
  | .par i j a b, s => match s with
    | .Assign ts e _ => (match ts with
      | [t] => (match t with
        | .Tuple tl _ _ => (match tl with
          | [t1, t2] => (match t1 with
            | .Name x px => (match t2 with
              | .Name y py => (match e with
                | .Tuple el _ _ => (match el with
                  | [e1, e2] => parOk P.N sc i j x y px py e1 e2 && ckEs P [a, b] sc [e1, e2]
                  | _ => false)
                | _ => false)
              | _ => false)
            | _ => false)
          | _ => false)
        | _ => false)
      | _ => false)
    | _ => false
  | .set i mk _ m, s => match s with
    | .Assign ts e _ => (match ts with
      | [t] => (match t with
        | .Subscript o ix _ => (match o with
          | .Name x _ => nmOk P sc i x && notSlice ix && (!isIt mk && ckE P mk sc ix) && (!isIt m && ckE P m sc e)
          | _ => false)
        | _ => false)
      | _ => false)
    | _ => false
  | .aug i op _ m, s => match s with
    | .AugAssign t o e _ => (match t with
      | .Name x _ => okTg P.N sc i x && decide (o = opOf op) && (!isIt m && ckE P m sc e)
      | _ => false)
    | _ => false
  | .augS i mk op _ m, s => match s with
    | .AugAssign t o e _ => (match t with
      | .Subscript b ix _ => (match b with
        | .Name x _ => nmOk P sc i x && notSlice ix && decide (o = opOf op) && (!isIt mk && ckE P mk sc ix) && (!isIt m && ckE P m sc e)
        | _ => false)
      | _ => false)
    | _ => false
  | .app i _ m, s => match s with
    | .Expr e _ => (match e with
      | .Call f args kws cp => (match f with
        | .Attribute o at_ ap => (match o with
          | .Name x _ => nmOk P sc i x && decide (at_ = "append") && kws.isEmpty && (ap.endLine == cp.line) && (match args with
            | [a] => notStar a && (!isIt m && ckE P m sc a)
            | _ => false)
          | _ => false)
        | _ => false)
      | _ => false)
    | _ => false
  | .exp _ m, s => match s with
    | .Expr e _ => noComp e && (!isIt m && ckE P m sc e)
    | _ => false
  | .ife _ c a b, s => match s with
    | .If t x y _ => (!isIt c && ckE P c sc t) && ckSs P sc a x && ckSs P sc b y
    | _ => false
  | .for t md it body, s => match s with
    | .For tg iter b orelse _ => orelse.isEmpty && notSet iter && tgIs (okTg P.N sc) t tg && (!tupIt it || isTupE tg) && (!isLook md || isRngE it) && ckE P it sc iter && ckSs P sc body b
    | _ => false
  | .whl _ c body, s => match s with
    | .While t b orelse _ => orelse.isEmpty && (!isIt c && ckE P c sc t) && ckSs P sc body b
    | _ => false
  | .ret k md m, s => match s with
    | .Return e _ => (match e with
      | some e => kOk P k m && (!isIt m && ckE P m sc e)
      | none => decide (k = 0) && (match md with
        | .keep [] => true
        | _ => false) && (match m with
        | .con d => isNon d
        | _ => false))
    | _ => false
  | .retv i, s => match s with
    | .Return e _ => (match e with
      | some e => (match e with
        | .Name x _ => nmOk P sc i x
        | _ => false)
      | none => false)
    | _ => false
  | .brk, s => match s with
    | .Break _ => true
    | _ => false
  | .cnt, s => match s with
    | .Continue _ => true
    | _ => false
  | .pas, s => match s with
    | .Pass _ => true
    | .Expr e _ => (match e with
      | .Constant c _ _ => (match c with
        | .str _ => true
        | _ => false)
      | _ => false)
    | _ => false
  | .bot, _ => true
def ckSs (P : CkP) (sc : Scope) : List MS → List Stmt → Bool
  | [], ss => ss.isEmpty
  | m :: ms, ss => match ss with
    | s :: ss => ckS P sc m s && ckSs P sc ms ss
    | [] => false
end
structure SOk (P : CkP) (EA : EAt) (call : Nat → List D → OutC) (X : Cx) (sc : Scope) (W : WX) : Prop extends XOk P EA call X sc W where
  own : PassesOwn (model X.prog X.w) X.A X.env X.xe
  kind : X.env.scope.kind = .function
  fnT : ∀ x, X.fn x = true
section
variable {P : CkP} {EA : EAt} {call : Nat → List D → OutC} {X : Cx} {sc : Scope} {W : WX} {A0 : Prot}
theorem tex_of {m : ME} {e : Expr} (x : XOk P EA call X sc W) (h : ckE P m sc e = true) (hi : isIt m = false) : PE X e (TEx X.K EA W (frE P m) (evE P.T call m)) :=
  ⟨fun pins s σ H Q I ⟨A0, q⟩ => (ckE_ok m (A0 := A0) x h hi).run pins s σ H Q I q⟩
theorem ttx_of {m : ME} {e : Expr} (x : XOk P EA call X sc W) (h : ckE P m sc e = true) (hi : isIt m = false) : PT X e (TTx X.K EA W fun r => tru (evE P.T call m r)) :=
  ⟨fun pins s σ H Q I ⟨A0, q⟩ => (ckT_ok m (A0 := A0) x h hi).run pins s σ H Q I q⟩
theorem okTg_fn {i : Nat} {y : Str} (x : SOk P EA call X sc W) (ho : okTg P.N sc i y = true) : TgName X i y := by
  unfold okTg at ho
  simp only [Bool.and_eq_true, decide_eq_true_eq] at ho
  have h2 := ho.2
  refine ⟨by rw [x.N]; exact ho.1, ?_, .inl (x.fnT y)⟩
  rw [x.sc]
  split at h2
  · rename_i e; exact .inl e
  · rename_i e; exact .inr e
  · cases h2
theorem kOk_of {k : Nat} {m : ME} (h : kOk P k m = true) : k = 1 → frE P m = 1 := fun e => by
  subst e
  simpa [kOk] using h
theorem nm_of {i : Nat} {y : Str} (x : XOk P EA call X sc W) (h : nmOk P sc i y = true) : X.N[i]? = some y ∧ Vis X.env.scope y ∧ (y == ("__debug__" : Str)) = false ∧ (y == ("__classdict__" : Str)) = false := by
  simp only [nmOk, Bool.and_eq_true, decide_eq_true_eq] at h
  exact ⟨by rw [x.N]; exact h.1.1, vis_of x h.1.2, (dbg1 h.2).1, (dbg1 h.2).2⟩
/-- name = e, a comprehension or not -/
theorem asg_any {m : ME} {e : Expr} {i : Nat} {y : Str} {p pos : Pos} (x : SOk P EA call X sc W) (ht : okTg P.N sc i y = true) (h : ckE P m sc e = true) (hi : isIt m = false) :
    PS X (.Assign [.Name y p] e pos) (tAsg (TEx X.K EA W (frE P m) (evE P.T call m)) (gName i)) := by
  have tg := okTg_fn x ht
  have nd : X.N.Nodup := by rw [x.N]; exact x.nd
  have hk : X.env.scope.kind = .function := x.kind
  have pe := tex_of x.toXOk h hi
  by_cases hc : noComp e = true
  · exact ps_set nd tg.at_ tg.loc pe (by cases e <;> first | rfl | (simp [noComp] at hc)) tg.fn
  · cases e <;> simp only [noComp, not_true_eq_false, Bool.false_eq_true, not_false_eq_true] at hc
    case ListComp elt gs scope cpos =>
      have hsw : swapsWith (.ListComp elt gs scope cpos) (some (.Name y p)) pos.line X.env = pure (X.env.blockKind == .function && X.env.kindOf y == some .local && p.line == cpos.line && !(scope.names.any fun (n, k) => n == y && (k == .local || k == .cell))) := rfl
      cases hb : (X.env.blockKind == .function && X.env.kindOf y == some .local && p.line == cpos.line && !(scope.names.any fun (n, k) => n == y && (k == .local || k == .cell))) with
      | false => exact ps_set nd tg.at_ tg.loc pe (by rw [hsw, hb]) tg.fn
      | true =>
        rw [hb] at hsw
        simp only [Bool.and_eq_true, beq_iff_eq] at hb
        have hyl : X.env.scope.names.lookup y = some .local := hb.1.1.2
        cases m <;> simp only [ckE, Bool.false_eq_true] at h
        case comp elt' t it c =>
          match gs, h, hsw with
          | [⟨tg', iter, ifs, n⟩], h, hsw =>
            simp only [Bool.and_eq_true, decide_eq_true_eq] at h
            obtain ⟨⟨⟨⟨⟨⟨⟨rfl, h1⟩, h2⟩, h3⟩, h4⟩, h5⟩, h6⟩, h7⟩ := h
            have ok : BlkOk X.N X.env.scope scope (ownOf P.N (tgS t)) := by rw [x.N, x.sc]; exact blkOk_by h2
            have gs : ∀ (s : Shared) (H : Hp) (C : Addr) (cl : List (Str × Addr)) (fp : List Addr), PG (X.blk s H scope (compEnvC scope cl C X.env) fp) tg' (TGv X.K t) := fun s H C cl fp =>
              pg_of (X := X.blk s H scope (compEnvC scope cl C X.env) fp) (by show X.N.Nodup; rw [x.N]; exact x.nd) x.calm (fun i y => okTg_of x.toXOk s H C cl fp) h3
            refine PS.imp (ps_setLc x.calm nd tg.at_ hyl hsw (tt := TTy X.K EA (evC P.T call c)) (te := TEy X.K EA (frE P elt') (evE P.T call elt')) (wi := TIx X.K EA W fun r => (evE P.T call it r).bind fun x r1 => lift (itemsD x) r1) ⟨fun pins s σ H Q I ⟨A0, q⟩ => (ckI_ok it (A0 := A0) x.toXOk h5 tg' (fun z => by simpa [z] using h4)).run pins s σ H Q I q⟩ ok gs
              (fun s H C cl fp => ckC_ok c (x.toXOk.blk s H scope C cl fp) h6) (fun s H C cl fp => tey_of fun A0 => ckE_ok elt' (x.toXOk.blk s H scope C cl fp) h7.2 (by simpa using h7.1)) (fold_ok h1 _)) fun E σ H q => ?_
            obtain ⟨A0, q⟩ := q
            rw [own_ix]
            have z := tv_comp (ke := frE P elt') q
            exact ⟨A0, z⟩
        case comp2 elt' t it c t1 it1 c1 =>
          match gs, h, hsw with
          | [⟨tg', iter, ifs, n⟩, ⟨tg1, iter1, ifs1, n1⟩], h, hsw =>
            simp only [Bool.and_eq_true, decide_eq_true_eq] at h
            obtain ⟨⟨⟨⟨⟨⟨⟨⟨⟨⟨⟨⟨⟨rfl, rfl⟩, h1⟩, h1'⟩, h2⟩, h3⟩, h3'⟩, h4⟩, h4'⟩, h5⟩, h6⟩, h5'⟩, h6'⟩, h7⟩ := h
            have ok : BlkOk X.N X.env.scope scope (ownOf P.N (tgS t ++ tgS t1)) := by rw [x.N, x.sc]; exact blkOk_by h2
            have gs : ∀ {t : Tg} {tg : Expr}, tgIs (okTg P.N scope) t tg = true → ∀ (s : Shared) (H : Hp) (C : Addr) (cl : List (Str × Addr)) (fp : List Addr), PG (X.blk s H scope (compEnvC scope cl C X.env) fp) tg (TGv X.K t) := fun ht s H C cl fp =>
              pg_of (X := X.blk s H scope (compEnvC scope cl C X.env) fp) (by show X.N.Nodup; rw [x.N]; exact x.nd) x.calm (fun i y => okTg_of x.toXOk s H C cl fp) ht
            refine PS.imp (ps_setLc2 x.calm nd tg.at_ hyl hsw (tt := TTy X.K EA (evC P.T call c)) (tt1 := TTy X.K EA (evC P.T call c1)) (wi1 := TIy X.K EA fun r => (evE P.T call it1 r).bind fun x r1 => lift (itemsD x) r1) (te := TEy X.K EA (frE P elt') (evE P.T call elt')) (wi := TIx X.K EA W fun r => (evE P.T call it r).bind fun x r1 => lift (itemsD x) r1) ⟨fun pins s σ H Q I ⟨A0, q⟩ => (ckI_ok it (A0 := A0) x.toXOk h5 tg' (fun z => by simpa [z] using h4)).run pins s σ H Q I q⟩ ok (vs1 := tgS t1) (by rw [own_ix]; exact fun i hi => List.mem_append_right _ hi) (gs h3)
              (fun s H C cl fp => ckC_ok c (x.toXOk.blk s H scope C cl fp) h6) (fun s H C cl fp => tiy_of fun A0 => ckI_ok it1 (x.toXOk.blk s H scope C cl fp) h5' tg1 (fun z => by simpa [z] using h4')) (gs h3')
              (fun s H C cl fp => ckC_ok c1 (x.toXOk.blk s H scope C cl fp) h6') (fun s H C cl fp => tey_of fun A0 => ckE_ok elt' (x.toXOk.blk s H scope C cl fp) h7.2 (by simpa using h7.1)) (fold_ok h1 _) (fold_ok h1')) fun E σ H q => ?_
            obtain ⟨A0, q⟩ := q
            rw [own_ix]
            have z := tv_comp2 (ke := frE P elt') q
            exact ⟨A0, z⟩
    case SetComp => cases m <;> simp [ckE] at h
    case DictComp => cases m <;> simp [ckE] at h
mutual
theorem ckS_ok (x : SOk P EA call X sc W) : ∀ (m : MS) {s : Stmt}, ckS P sc m s = true → PS X s (TSv X.K A0 EA W (evS P.T call m))
  | .asg i k md m, s, h => by
    cases s <;> simp only [ckS, Bool.false_eq_true] at h
    rename_i ts e pos
    match ts, h with
    | [t], h =>
      cases t <;> simp only [Bool.false_eq_true, Bool.and_eq_true] at h
      obtain ⟨⟨h1, h2⟩, h3⟩ := h
      exact ts_asg (kOk_of h2) (asg_any x h1 h3.2 (by simpa using h3.1))
  | .asgT is md m, s, h => by
    cases s <;> simp only [ckS, Bool.false_eq_true] at h
    rename_i ts e pos
    match ts, h with
    | [t], h =>
      simp only [Bool.and_eq_true] at h
      obtain ⟨⟨h1, h2⟩, h3⟩ := h
      have g := pg_of (X := X) (by rw [x.N]; exact x.nd) x.calm (fun i y => okTg_fn x) h1
      cases t <;> simp only [tgIs, Bool.false_eq_true] at h1
      exact ts_asgT (ps_asg (tex_of x.toXOk h3.2 (by simpa using h3.1)) g (by cases e <;> rfl) (sw_none h2))
  | .par i j a b, s, h => by
    cases s <;> simp only [ckS, Bool.false_eq_true] at h
    rename_i ts e pos
    match ts, h with
    | [t], h =>
      cases t <;> simp only [Bool.false_eq_true] at h
      rename_i tl kt pt
      match tl, h with
      | [t1, t2], h =>
        cases t1 <;> simp only [Bool.false_eq_true] at h
        rename_i u px
        cases t2 <;> simp only [Bool.false_eq_true] at h
        rename_i w py
        cases e <;> simp only [Bool.false_eq_true] at h
        rename_i el k2 pt2 _ _
        match el, h with
        | [e1, e2], h =>
          simp only [Bool.and_eq_true] at h
          obtain ⟨h1, h2⟩ := h
          simp only [parOk, Bool.and_eq_true, decide_eq_true_eq, Bool.not_eq_true'] at h1
          obtain ⟨⟨⟨⟨⟨⟨⟨⟨⟨⟨a1, a2⟩, a3⟩, a4⟩, a5⟩, a6⟩, a7⟩, a8⟩, a9⟩, a10⟩, a11⟩ := h1
          have hk : X.env.scope.kind = .function := x.kind
          have hbk : X.env.blockKind = .function := by
            unfold PySem.Env.blockKind
            rw [hk]; rfl
          have kx : X.env.kindOf u = some .local := by
            show X.env.scope.names.lookup u = _
            rw [x.sc]; exact a5
          have ky : X.env.kindOf w = some .local := by
            show X.env.scope.names.lookup w = _
            rw [x.sc]; exact a6
          refine ts_par (ps_par x.calm (by rw [x.N]; exact x.nd) (by rw [x.N]; exact a1) (by rw [x.N]; exact a2) a3 kx ky ?_ (swapped_par hbk kx ky a7 a4 a8 a9 a10 a11) ?_)
          · exact ⟨fun pos pins s σ H Q I ⟨A0, q⟩ => (ckEs_ok [a, b] (A0 := A0) x.toXOk h2).1.run pos pins s σ H Q I q⟩
          · rfl
  | .set i mk md m, s, h => by
    cases s <;> simp only [ckS, Bool.false_eq_true] at h
    rename_i ts e pos
    match ts, h with
    | [t], h =>
      cases t <;> simp only [Bool.false_eq_true] at h
      rename_i o ix tp
      cases o <;> simp only [Bool.false_eq_true, Bool.and_eq_true] at h
      obtain ⟨⟨⟨h1, h2⟩, h3⟩, h4⟩ := h
      obtain ⟨n1, n2, n3, n4⟩ := nm_of x.toXOk h1
      exact ts_set n1 n2 n3 n4 (tex_of x.toXOk h4.2 (by simpa using h4.1)) (tex_of x.toXOk h3.2 (by simpa using h3.1)) (by cases e <;> rfl) (by cases e <;> rfl) (by intro v; cases ix <;> first | rfl | (simp [notSlice] at h2))
  | .aug i op md m, s, h => by
    cases s <;> simp only [ckS, Bool.false_eq_true] at h
    rename_i t o e pos
    cases t <;> simp only [Bool.false_eq_true, Bool.and_eq_true, decide_eq_true_eq] at h
    obtain ⟨⟨h1, rfl⟩, h3⟩ := h
    exact ts_aug (by rw [x.N]; exact x.nd) (okTg_fn x h1) (tex_of x.toXOk h3.2 (by simpa using h3.1))
  | .augS i mk op md m, s, h => by
    cases s <;> simp only [ckS, Bool.false_eq_true] at h
    rename_i t o e pos
    cases t <;> simp only [Bool.false_eq_true] at h
    rename_i b ix tp
    cases b <;> simp only [Bool.false_eq_true, Bool.and_eq_true, decide_eq_true_eq] at h
    obtain ⟨⟨⟨⟨h1, h2⟩, rfl⟩, h3⟩, h4⟩ := h
    obtain ⟨n1, n2, n3, n4⟩ := nm_of x.toXOk h1
    exact ts_augS n1 n2 n3 n4 (tex_of x.toXOk h4.2 (by simpa using h4.1)) (tex_of x.toXOk h3.2 (by simpa using h3.1)) (by intro a b c; cases ix <;> first | rfl | (simp [notSlice] at h2))
  | .app i md m, s, h => by
    cases s <;> simp only [ckS, Bool.false_eq_true] at h
    rename_i e pos
    cases e <;> simp only [Bool.false_eq_true] at h
    rename_i f args kws cp
    cases f <;> simp only [Bool.false_eq_true] at h
    rename_i o at_ ap
    cases o <;> simp only [Bool.false_eq_true, Bool.and_eq_true, decide_eq_true_eq] at h
    obtain ⟨⟨⟨⟨h1, rfl⟩, h3⟩, h4⟩, h5⟩ := h
    obtain ⟨n1, n2, n3, n4⟩ := nm_of x.toXOk h1
    have hkw : kws = [] := by simpa using h3
    subst hkw
    match args, h5 with
    | [a], h5 =>
      simp only [Bool.and_eq_true] at h5
      exact ts_app n1 n2 n3 n4 (tex_of x.toXOk h5.2.2 (by simpa using h5.2.1)) h5.1 h4
  | .exp md m, s, h => by
    cases s <;> simp only [ckS, Bool.false_eq_true, Bool.and_eq_true] at h
    rename_i e pos
    exact ts_exp (by cases e <;> first | rfl | (simp [noComp] at h)) (tex_of x.toXOk h.2.2 (by simpa using h.2.1))
  | .ife md c a b, s, h => by
    cases s <;> simp only [ckS, Bool.false_eq_true, Bool.and_eq_true] at h
    obtain ⟨⟨h1, h2⟩, h3⟩ := h
    exact ts_if (ttx_of x.toXOk h1.2 (by simpa using h1.1)) (ckSs_ok x a h2) (ckSs_ok x b h3)
  | .for t md it body, s, h => by
    cases s <;> simp only [ckS, Bool.false_eq_true, Bool.and_eq_true] at h
    rename_i tg iter b orelse pos
    obtain ⟨⟨⟨⟨⟨⟨h1, h2⟩, h3⟩, h4⟩, h5⟩, h6⟩, h7⟩ := h
    have ho : orelse = [] := by simpa using h1
    subst ho
    have g := pg_of (X := X) (by rw [x.N]; exact x.nd) x.calm (fun i y => okTg_fn x) h3
    by_cases hl : md = .look
    · subst hl
      have h5' : isRngE it = true := by simpa [isLook] using h5
      cases it <;> simp only [isRngE, Bool.false_eq_true] at h5'
      exact ts_for x.own x.calm (wi := TIrx X.K EA W _) ⟨fun pins s σ H Q I ⟨A0, q⟩ => (ckR_ok (A0 := A0) x.toXOk h6 tg).run pins s σ H Q I q⟩ (fun σ H R q => ti_impL q) g (ckSs_ok x body h7) (fold_ok h2 _)
    · exact ts_for x.own x.calm (wi := TIx X.K EA W _) ⟨fun pins s σ H Q I ⟨A0, q⟩ => (ckI_ok it (A0 := A0) x.toXOk h6 tg (fun z => by simpa [z] using h4)).run pins s σ H Q I q⟩ (fun σ H R q => ti_imp hl q) g (ckSs_ok x body h7) (fold_ok h2 _)
  | .whl md c body, s, h => by
    cases s <;> simp only [ckS, Bool.false_eq_true, Bool.and_eq_true] at h
    rename_i t b orelse pos
    obtain ⟨⟨h1, h2⟩, h3⟩ := h
    have ho : orelse = [] := by simpa using h1
    subst ho
    exact ts_while x.own (ttx_of x.toXOk h2.2 (by simpa using h2.1)) (ckSs_ok x body h3)
  | .ret k md m, s, h => by
    cases s <;> simp only [ckS, Bool.false_eq_true] at h
    rename_i e pos
    cases e with
    | some e =>
      simp only [Bool.and_eq_true] at h
      exact ts_ret (kOk_of h.1) (tex_of x.toXOk h.2.2 (by simpa using h.2.1))
    | none =>
      simp only [Bool.and_eq_true, decide_eq_true_eq] at h
      obtain ⟨⟨rfl, h2⟩, h3⟩ := h
      split at h2
      · cases m <;> simp only [Bool.false_eq_true] at h3
        rename_i d
        have hd : d = .none := by cases d <;> simp_all [isNon]
        subst hd
        exact ts_retN
      · cases h2
  | .retv i, s, h => by
    cases s <;> simp only [ckS, Bool.false_eq_true] at h
    rename_i e pos
    cases e with
    | none => cases h
    | some e =>
      cases e <;> simp only [Bool.false_eq_true] at h
      obtain ⟨n1, n2, n3, n4⟩ := nm_of x.toXOk h
      exact ts_retv n1 n2 n3 n4
  | .brk, s, h => by
    cases s <;> simp only [ckS, Bool.false_eq_true] at h
    exact ts_brk
  | .cnt, s, h => by
    cases s <;> simp only [ckS, Bool.false_eq_true] at h
    exact ts_cnt
  | .pas, s, h => by
    cases s <;> simp only [ckS, Bool.false_eq_true] at h
    · rename_i e pos
      cases e <;> simp only [Bool.false_eq_true] at h
      rename_i c k p
      cases c <;> simp only [Bool.false_eq_true] at h
      exact ts_pass ps_doc
    · exact ts_pass ps_pass
  | .bot, s, h => ts_bot
theorem ckSs_ok (x : SOk P EA call X sc W) : ∀ (ms : List MS) {ss : List Stmt}, ckSs P sc ms ss = true → PSs X ss (TSv X.K A0 EA W (evSs P.T call ms))
  | [], ss, h => by
    cases ss <;> simp only [ckSs, List.isEmpty_nil, List.isEmpty_cons, Bool.false_eq_true] at h
    exact ts_nil
  | m :: ms, ss, h => by
    cases ss with
    | nil => simp only [ckSs, Bool.false_eq_true] at h
    | cons s ss =>
      simp only [ckSs, Bool.and_eq_true] at h
      exact ts_cons (ckS_ok x m h.1) (ckSs_ok x ms h.2)
end
end
end Cw
end

section
namespace Cw
open PySem PySem.Spec PyProof.Rows L2

def scOk (N ps : List Str) (sc : Scope) : Bool :=
  (match sc.kind with | .function => true | _ => false) && !sc.isCoroutine && !sc.isGenerator && decide N.Nodup && decide (N.take ps.length = ps) && (ps.all fun x => match sc.names.lookup x with | some .local => true | some .cell => true | _ => false) && (sc.names.all fun y => match y.2 with | .free => false | _ => true)
theorem scOk_of {N ps : List Str} {sc : Scope} (h : scOk N ps sc = true) : FnScope N ps sc := by
  simp only [scOk, Bool.and_eq_true, decide_eq_true_eq, List.all_eq_true, Bool.not_eq_true'] at h
  obtain ⟨⟨⟨⟨⟨⟨h1, h2⟩, h3⟩, h4⟩, h5⟩, h6⟩, h7⟩ := h
  refine ⟨?_, h2, h3, h4, h5, fun x hx => ?_, fun y hy e => ?_⟩
  · split at h1
    · assumption
    · cases h1
  · have q := h6 x hx
    split at q
    · rename_i e; exact .inl e
    · rename_i e; exact .inr e
    · cases q
  · have q := h7 y hy
    rw [e] at q
    cases q
/-- a def's text is fn -/
def fnCk (P : CkP) (fn : Fn) (ps : List Str) (sc : Scope) (body : List Stmt) : Bool :=
  scOk P.N ps sc && decide (fn.np = ps.length) && decide (fn.ns = P.N.length) && (fn.io.all fun i => decide (i < fn.np)) && ckSs P sc fn.body body
theorem outs_get {r : Env} : ∀ {io : List Nat} {os : List D}, outsE r io = some os → os.length = io.length ∧ ∀ (j i : Nat), io[j]? = some i → ∃ d, r[i]? = some (.mut d) ∧ os[j]? = some d
  | [], os, h => by
    simp only [outsE, Option.some.injEq] at h
    subst h
    exact ⟨rfl, fun j i e => by simp at e⟩
  | i :: io, os, h => by
    unfold outsE at h
    split at h
    · rename_i d e
      obtain ⟨os', h1, rfl⟩ := Option.map_eq_some_iff.mp h
      obtain ⟨h2, h3⟩ := outs_get h1
      refine ⟨by simp [h2], fun j i' e' => ?_⟩
      cases j with
      | zero => simp at e'; subst e'; exact ⟨d, e, rfl⟩
      | succ j => simpa using h3 j i' (by simpa using e')
    · cases h
section
variable {K : Fr} {S : Addr → Prop} {σ' : L2.St} {H H' : Hp} {r' : Env} {Fs' : List (Option Addr)} {fn : Fn} {vs : List V} {os : List D}
theorem outs_ok (G : Good K ⟨S, fun _ => False⟩ σ' H' r' Fs') (c : Chn ⟨S, fun _ => False⟩ H H' (fsOf fn vs) Fs') (h : outsE r' fn.io = some os) : OutsOk K H' S fn vs os ∧ os.length = fn.io.length := by
  obtain ⟨h1, h2⟩ := outs_get h
  refine ⟨fun j i e => ?_, h1⟩
  obtain ⟨d, h3, h4⟩ := h2 j i e
  obtain ⟨a, q1, _, q3, q4⟩ := G.chg i d h3
  have q := c.mt i a q1 q3
  rw [fsOf_get] at q
  split at q
  · simp only [Option.some.injEq] at q
    split at q
    · unfold addrOf at q
      split at q
      · rename_i a' e'
        cases q
        exact ⟨a, d, e', h4, q4.mono fun x z => .inl z⟩
      · cases q
    · cases q
  · cases q
/-- a body's end -/
theorem fin_ok {EA : EAt} {f : Nat} {o : Out Flow} {Q : VK} {E : XK} {ds : List D} {call' : Nat → List D → OutC} (hcall : call' f ds = finE fn o) {σ0 : L2.St}
    (G0 : Good K ⟨S, fun _ => False⟩ σ0 H (startE fn ds) (fsOf fn vs))
    (h : match call' f ds with
      | .ok d os => ∀ v H', Keep (inF (fsOf fn vs)) H H' → ResOk K H H' S fn.fresh v d → OutsOk K H' S fn vs os → os.length = fn.io.length → Q v H'
      | .exc x os => ∀ cls dx H', Keep (inF (fsOf fn vs)) H H' → OutsOk K H' S fn vs os → os.length = fn.io.length → EA x cls dx H' → E cls dx H'
      | .bad => False) : PFv K ⟨S, fun _ => False⟩ EA (fun cls d _ H => E cls d H) (fsOf fn vs) H { nx := fun _ H' => Q .non H', rt := Q } o := by
  rw [hcall] at h
  cases o with
  | bad => exact h.elim
  | exc x r' =>
    simp only [finE] at h
    intro cls dx σ' H' Fs' c g e
    cases q : outsE r' fn.io with
    | none => rw [q] at h; exact h.elim
    | some os =>
      rw [q] at h
      obtain ⟨z1, z2⟩ := outs_ok g c q
      exact h cls dx H' c.kp z1 z2 e
  | ok fl r' =>
    intro σ' H' Fs' c g
    cases fl with
    | brk => exact h.elim
    | cnt => exact h.elim
    | nx =>
      simp only [finE] at h
      cases q : outsE r' fn.io with
      | none => rw [q] at h; exact h.elim
      | some os =>
        rw [q] at h
        obtain ⟨z1, z2⟩ := outs_ok g c q
        exact h .non H' c.kp (ResOk.atom .non fun _ e => nomatch e) z1 z2
    | ret k d =>
      simp only [finE] at h
      intro v rv rn
      by_cases hc : (fn.fresh == 0 || k == 1 || imm d) = true
      · rw [if_pos hc] at h
        cases q : outsE r' fn.io with
        | none => rw [q] at h; exact h.elim
        | some os =>
          rw [q] at h
          obtain ⟨z1, z2⟩ := outs_ok g c q
          refine h v H' c.kp ⟨rv, fun hf ds' e => ?_⟩ z1 z2
          subst e
          have hk : k = 1 := by
            simp only [Bool.or_eq_true, beq_iff_eq] at hc
            rcases hc with (hc | hc) | hc
            · omega
            · exact hc
            · cases hc
          obtain ⟨a, xs, e1, e2, e3, e4⟩ := rn hk ds' rfl
          refine ⟨a, xs, e1, ?_, e3, e4⟩
          rcases e2 with e2 | ⟨e2, n⟩
          · exact e2
          · exfalso
            obtain ⟨i, hi⟩ := List.mem_iff_getElem?.mp e2
            rcases G0.emp i a hi with ⟨d', z⟩ | ⟨d', z⟩
            · rw [startE_get] at z
              split at z
              · simp only [Option.some.injEq] at z
                split at z <;> cases z
              · split at z <;> cases z
            · obtain ⟨b, q1, _, q3, _⟩ := G0.chg i d' z
              rw [hi] at q1; cases q1
              exact n q3
      · rw [if_neg hc] at h; exact h.elim
end
/-- the facts of a def that the top tells -/
structure FnTab (K : Fr) (mg : Str → Option Value) (P : CkP) (x : Str) (fn : Fn) : Prop where
  ex : ∃ (fa : Addr) (fd : FuncData) (nm qual : Str) (params : Arguments) (body : List Stmt) (scope : Scope) (N ps : List Str), FunD K nm qual params body scope [] [] fa fd ∧ mg x = some (.ref fa) ∧ L2.Binds K fd ps [] ∧ fnCk { P with N := N } fn ps scope body = true
section
variable {Pr : Program} {w : World} {K : Fr} {mg : Str → Option Value} {base : Heap} {EA : EAt} {P : CkP}
/-- one def at one depth, its callees at the depth below -/
theorem fn_ok1 {n f : Nat} {fn : Fn} {fa : Addr} {fd : FuncData} {nm qual : Str} {params : Arguments} {body : List Stmt} {scope : Scope} {N ps : List Str}
    (F : FunD K nm qual params body scope [] [] fa fd) (hck : fnCk { P with N := N } fn ps scope body = true) (hT : P.T f = some fn)
    (blt : ∀ x, P.blt x = true → mg x = none) (cst : ∀ x d, P.cst x = some d → ∃ v u, mg x = some u ∧ RelV v u ∧ (∀ (H : Hp) S, Rep K H S v d) ∧ ∀ ds, d ≠ .list ds) (gcd : ∀ x, P.gcds x = true → mg x = some (.builtin "math.gcd"))
    (ih : ∀ x f fn, P.fn x = some f → P.T f = some fn → ∃ fa fd ps, FnOk Pr w K mg base (L2.CX Pr w) n fa fd ps (spF K EA (callF P.T n) f fn) ∧ mg x = some (.ref fa) ∧ PySem.W.keepIn K (.ref fa) = true ∧ L2.Binds K fd ps []) :
    FnOk Pr w K mg base (L2.CX Pr w) (n + 1) fa fd ps (spF K EA (callF P.T (n + 1)) f fn) := by
  simp only [fnCk, Bool.and_eq_true, decide_eq_true_eq] at hck
  obtain ⟨⟨⟨⟨h1, h2⟩, h3⟩, h4⟩, h5⟩ := hck
  have S := scOk_of h1
  refine F.ok S (fun vs H Q E ⟨_, _, h, _⟩ => h.trans h2) fun cdv A outer s H vs Q E hr ⟨S0, ds, hv, hd, G, hm⟩ => ?_
  have x : SOk { P with N := N } EA (callF P.T n) (cxOf (L2.CX Pr w) Pr w K mg base N qual scope fa cdv A outer s H E) scope (fun cls d _ H => E cls d H) := {
    N := rfl
    nd := S.nd
    calm := rfl
    hu := by have := hr.un; show (A.deeper _).units + 70 < cLine; omega
    sc := rfl
    tk := takes_of rfl rfl rfl rfl
    blt := blt
    fns := fun x f fn e1 e2 => by
      obtain ⟨fa', fd', ps', F', m', k', b'⟩ := ih x f fn e1 e2
      exact ⟨n, fa', fd', ps', F', hr, m', k', b'⟩
    cst := cst
    gcd := gcd
    own := passes_of rfl
    kind := S.kind
    fnT := fun _ => rfl }
  refine ⟨_, ckSs_ok (A0 := ⟨S0, fun _ => False⟩) x fn.body h5, ?_⟩
  have e0 : start N vs = vs.map some ++ List.replicate (fn.ns - vs.length) none := by rw [h3]; rfl
  refine ⟨startE fn ds, fsOf fn vs, by rw [e0]; exact G, ?_⟩
  refine fin_ok (call' := callF P.T (n + 1)) (f := f) ?_ G hm
  show callF P.T (n + 1) f ds = _
  unfold callF
  simp only [hT]
  rw [if_pos hd]
/-- all defs, at every depth -/
theorem fn_all (tab : ∀ x f fn, P.fn x = some f → P.T f = some fn → FnTab K mg P x fn)
    (blt : ∀ x, P.blt x = true → mg x = none) (cst : ∀ x d, P.cst x = some d → ∃ v u, mg x = some u ∧ RelV v u ∧ (∀ (H : Hp) S, Rep K H S v d) ∧ ∀ ds, d ≠ .list ds) (gcd : ∀ x, P.gcds x = true → mg x = some (.builtin "math.gcd")) :
    ∀ n x f fn, P.fn x = some f → P.T f = some fn → ∃ fa fd ps, FnOk Pr w K mg base (L2.CX Pr w) n fa fd ps (spF K EA (callF P.T n) f fn) ∧ mg x = some (.ref fa) ∧ PySem.W.keepIn K (.ref fa) = true ∧ L2.Binds K fd ps []
  | 0, x, f, fn, h1, h2 => by
    obtain ⟨fa, fd, nm, qual, params, body, scope, N, ps, F, hm, hb, hck⟩ := (tab x f fn h1 h2).ex
    exact ⟨fa, fd, ps, ⟨fun vs H Q E h => h.choose_spec.choose_spec.2.2.2.elim, fun A outer s H args us vs Q E _ _ _ _ h => h.choose_spec.choose_spec.2.2.2.elim⟩, hm, F.kp, hb⟩
  | n + 1, x, f, fn, h1, h2 => by
    obtain ⟨fa, fd, nm, qual, params, body, scope, N, ps, F, hm, hb, hck⟩ := (tab x f fn h1 h2).ex
    exact ⟨fa, fd, ps, fn_ok1 F hck h2 blt cst gcd fun x f fn e1 e2 => fn_all tab blt cst gcd n x f fn e1 e2, hm, F.kp, hb⟩
end
end Cw
end

section
namespace Cw
open PySem PySem.Spec PyProof.Rows L2

theorem mem_lookup2 {β : Type} : ∀ {l : List (Str × β)} {x : Str} {b : β}, l.lookup x = some b → (x, b) ∈ l
  | [], _, _, h => by simp at h
  | (y, c) :: l, x, b, h => by
    by_cases e : x = y
    · subst e
      simp at h
      subst h
      exact List.mem_cons_self
    · have e' : (x == y) = false := by simpa using e
      simp only [List.lookup_cons, e'] at h
      exact List.mem_cons_of_mem _ (mem_lookup2 h)
/-- an exception that the defs may let out, of whatever world -/
def CXe : CXT := fun outer H s E u s' => ∃ (P : Program) (w : World), L2.CX P w outer H s E u s'
theorem cxe_no : ∀ (H : Hp) (s : Shared) (e : Value) (s' : Shared), CXe [] H s (fun _ _ _ => False) e s' → False :=
  fun H s e s' ⟨P, w, a, B, H', cls, d, _, _, _, _, _, _, _, z⟩ => z
theorem FnOk.cxe {Pr : Program} {w : World} {K : Fr} {mg : Str → Option Value} {base : Heap} {k : Nat} {f : Addr} {fd : FuncData} {ps : List Str} {sp : Sp} (F : FnOk Pr w K mg base (L2.CX Pr w) k f fd ps sp) : FnOk Pr w K mg base CXe k f fd ps sp :=
  ⟨F.len, fun A outer s H args us vs Q E hr e0 hb hv hs => codeAny_mono (F.run A outer s H args us vs Q E hr e0 hb hv hs) fun r s' h => by
    cases r with
    | error e => exact ⟨Pr, w, h⟩
    | ok fl => cases fl <;> exact h⟩
theorem ints_rep {K : Fr} {H : Hp} {S : Addr → Prop} : ∀ ns : List Int, Reps K H S (ns.map V.int) (ns.map PyData.int)
  | [] => .nil
  | n :: ns => .cons (.int n) (ints_rep ns)
/-- a frame at its start, nothing handed in to be changed -/
theorem good0 {K : Fr} {H : Hp} {S : Addr → Prop} {fn : Fn} {vs : List V} {ds : List D} (hio : fn.io = []) (hl : vs.length ≤ fn.ns) (r : Reps K H S vs ds) (al : ∀ a, S a → H a ≠ none) :
    Good K ⟨S, fun _ => False⟩ (vs.map some ++ List.replicate (fn.ns - vs.length) none) H (startE fn ds) (fsOf fn vs) := by
  have hd := r.length
  have nF : ∀ (i : Nat) a, (fsOf fn vs)[i]? ≠ some (some a) := fun i a h => by
    rw [fsOf_get, hio] at h
    split at h <;> simp at h
  have st : ∀ i, (startE fn ds)[i]? = if h : i < ds.length then some (.val ds[i]) else if i < fn.ns then some .non else none := fun i => by
    rw [startE_get, hio]; simp
  refine ⟨?_, ?_, fun i d e => ?_, fun i k d e => ?_, fun i d e => ?_, fun i d e => ?_, fun a h => h.elim, fun i j a h => absurd h (nF i a), fun i a h => absurd h (nF i a), al⟩
  · rw [startE_len fn ds (by omega)]; simp [fsOf]
  · rw [startE_len fn ds (by omega)]; simp; omega
  · rw [st] at e
    split at e
    · rename_i hi
      cases e
      have hi' : i < vs.length := by omega
      obtain ⟨v, h1, h2⟩ := r.get (List.getElem?_eq_getElem hi)
      refine ⟨v, ?_, h2.mono fun a z => z.elim .inl fun z => ?_⟩
      · rw [sig_get, dif_pos hi']
        rw [List.getElem?_eq_getElem hi'] at h1
        cases h1
        rfl
      · obtain ⟨j, hj⟩ := List.mem_iff_getElem?.mp z
        exact absurd hj (nF j a)
    · split at e <;> cases e
  all_goals
    rw [st] at e
    split at e
    · cases e
    · split at e <;> cases e
theorem law_end {Pr : Program} {w : World} {K : Fr} {h : Heap} {mg : Str → Option Value} {P : CkP} {fa fa' : Addr} {fd : FuncData} {nm qual x : Str} {params : Arguments} {body : List Stmt} {scope : Scope} {N : List Str} {f : Nat} {fn : Fn} {n : Nat}
    (KX : K.In h) (hmg : mg ("law" : Str) = some (.ref fa)) (F : FunD K nm qual params body scope [] [] fa' fd) (hg : mg ("law" : Str) = some (.ref fa')) (hb : ∀ (s : Shared) (u : Value), BindsTo s fd ⟨[u], []⟩ [(x, u)]) (hck : fnCk { P with N := N } fn [x] scope body = true) (hT : P.T f = some fn)
    (hio : fn.io = []) (hnp : fn.np = 1) (hns : 1 ≤ fn.ns)
    (plain : ∀ ns : List Int, ns.length ≤ 63 → callF P.T (n + 1) f [.list (ns.map .int)] = .ok (.bool true) [])
    (tab : ∀ x f fn, P.fn x = some f → P.T f = some fn → FnTab K mg P x fn) (blt : ∀ x, P.blt x = true → mg x = none) (cst : ∀ x d, P.cst x = some d → ∃ v u, mg x = some u ∧ RelV v u ∧ (∀ (H : Hp) S, Rep K H S v d) ∧ ∀ ds, d ≠ .list ds) (gcd : ∀ x, P.gcds x = true → mg x = some (.builtin "math.gcd")) :
    ∃ (K : PySem.W.Frag) (fd : FuncData) (sp : Sp), K.In h ∧ (∀ (s : Shared) (u : Value), BindsTo s fd ⟨[u], []⟩ [(x, u)]) ∧
        (∀ (H : Hp) (a : Addr) (ns : List Int), ns.length ≤ 63 → Only H → SqL K H a (ns.map V.int) → sp [.ref a] H (fun v _ => v = .bl true) fun _ _ _ => False) ∧
        ∀ base : Heap, K.In base → base.Ns mainGlobals mg → FnOk Pr w K mg base CXe (n + 1) fa fd [x] sp := by
  rw [hmg] at hg
  cases hg
  refine ⟨K, fd, spF K (fun _ _ _ _ => False) (callF P.T (n + 1)) f fn, KX, hb, fun H a ns hl _ hS => ?_, fun base _ _ => FnOk.cxe (fn_ok1 F hck hT blt cst gcd fun x f fn e1 e2 => fn_all tab blt cst gcd n x f fn e1 e2)⟩
  have hr : Reps K H (fun _ => False) [.ref a] [.list (ns.map .int)] := .cons (.lst (by
    rcases hS with hS | hS
    · exact .inl ⟨hS, fun z => z⟩
    · exact .inr hS) (ints_rep ns)) .nil
  refine ⟨fun _ => False, [.list (ns.map .int)], by rw [hnp]; rfl, by rw [hnp]; rfl, good0 hio (by simpa using hns) hr fun _ z => z.elim, ?_⟩
  rw [plain ns hl]
  exact fun v H' _ q _ _ => rep_bl q.1
end Cw
end

section
namespace Cw
open PySem
section
variable {α β : Type}
@[simp] theorem b_ok (a : α) (r : Env) (f : α → Env → Out β) : (Out.ok a r).bind f = f a r := rfl
@[simp] theorem b_bad (f : α → Env → Out β) : (Out.bad).bind f = .bad := rfl
@[simp] theorem as_ok (a : α) (r r' : Env) : (Out.ok a r').as r = .ok a r := rfl
@[simp] theorem lift_some (a : α) (r : Env) : lift (some a) r = .ok a r := rfl
@[simp] theorem noX_okk (a : α) (r : Env) : (Out.ok a r).noX = .ok a r := rfl
end
@[simp] theorem tru_ok (d : D) (r : Env) : tru (.ok d r) = lift (truthD d) r := rfl
@[simp] theorem truth_b (b : Bool) : truthD (.bool b) = some b := rfl
@[simp] theorem truth_i (n : Int) : truthD (.int n) = some (n != 0) := rfl
@[simp] theorem truth_n : truthD .none = some false := rfl
@[simp] theorem truth_l (xs : List D) : truthD (.list xs) = some (!xs.isEmpty) := rfl
@[simp] theorem truth_t (xs : List D) : truthD (.tuple xs) = some (!xs.isEmpty) := rfl
@[simp] theorem bin_add (a b : Int) : binD .add (.int a) (.int b) = some (.int (a + b)) := rfl
@[simp] theorem bin_sub (a b : Int) : binD .sub (.int a) (.int b) = some (.int (a - b)) := rfl
theorem lt_int (a b : Int) : ltD (.int a) (.int b) = some (decide (a < b)) := by
  have e : PySem.W.dataLt (.int a) (.int b) = decide (a < b) := PySem.W.dataLt_int a b
  simp [ltD, PySem.W.alike, isNon, deepOk, PyData.depth, e]
theorem eq_int (a b : Int) : eqD (.int a) (.int b) = some (decide (a = b)) := by
  have e : (a == b) = decide (a = b) := by rw [Bool.eq_iff_iff]; simp
  simp [eqD, deepOk, PyData.plain, PyData.depth, PyData.eqv, e]
@[simp] theorem cmp_lt (a b : Int) : cmpD .lt (.int a) (.int b) = some (decide (a < b)) := lt_int a b
@[simp] theorem cmp_gt (a b : Int) : cmpD .gt (.int a) (.int b) = some (decide (b < a)) := lt_int b a
@[simp] theorem cmp_le (a b : Int) : cmpD .le (.int a) (.int b) = some (decide (a ≤ b)) := by
  show (ltD (.int b) (.int a)).map (!·) = _
  rw [lt_int]
  simp only [Option.map_some, Option.some.injEq]
  rw [Bool.eq_iff_iff]; simp
@[simp] theorem cmp_ge (a b : Int) : cmpD .ge (.int a) (.int b) = some (decide (b ≤ a)) := by
  show (ltD (.int a) (.int b)).map (!·) = _
  rw [lt_int]
  simp only [Option.map_some, Option.some.injEq]
  rw [Bool.eq_iff_iff]; simp
@[simp] theorem cmp_eq (a b : Int) : cmpD .eq (.int a) (.int b) = some (decide (a = b)) := eq_int a b
@[simp] theorem cmp_ne (a b : Int) : cmpD .ne (.int a) (.int b) = some (!decide (a = b)) := by
  show (eqD (.int a) (.int b)).map (!·) = _
  rw [eq_int]; rfl
theorem call_eq (T : Nat → Option Fn) (n f : Nat) (fn : Fn) (ds : List D) (h : T f = some fn) (hl : ds.length = fn.np) : callF T (n + 1) f ds = finE fn (evSs T (callF T n) fn.body (startE fn ds)) := by
  unfold callF
  simp only [h, hl, if_true]

theorem b_ok_of {α β : Type} {o : Out α} {a : α} {r : Env} {f : α → Env → Out β} (h : o = .ok a r) : o.bind f = f a r := by rw [h]; rfl
section
variable {T : Nat → Option Fn} {c : Nat → List D → OutC} {r r' : Env} {a b e : ME} {es : List ME} {x y z d : D} {k l : Bool} {xs ds : List D}
/-- an expression's value, the frame unchanged -/
structure EvE (T : Nat → Option Fn) (c : Nat → List D → OutC) (r : Env) (m : ME) (d : D) : Prop where
  h : evE T c m r = .ok d r
structure EvEs (T : Nat → Option Fn) (c : Nat → List D → OutC) (r : Env) (ms : List ME) (ds : List D) : Prop where
  h : evEs T c ms r = .ok ds r
structure EvAs (T : Nat → Option Fn) (c : Nat → List D → OutC) (r : Env) (n : Nat) (ms : List ME) (ds : List D) : Prop where
  h : evAs T c [] n ms r = .ok ds r
structure Cal (c : Nat → List D → OutC) (f : Nat) (ds : List D) (d : D) : Prop where
  h : c f ds = .ok d []
structure BinR (op : BOp) (x y z : D) : Prop where
  h : binD op x y = some z
structure CmpR (op : COp) (x y : D) (k : Bool) : Prop where
  h : cmpD op x y = some k
structure BiR (bi : Bi) (ds : List D) (z : D) : Prop where
  h : biD bi ds = some z
structure IdxR (x y z : D) : Prop where
  h : idxD x y = some z
structure Trth (x : D) (k : Bool) : Prop where
  h : truthD x = some k
theorem ev_var {i : Nat} (h : getV r i = some d) : EvE T c r (.var i) d := ⟨by simp only [evE, h, lift_some]⟩
theorem ev_con : EvE T c r (.con d) d := ⟨rfl⟩
theorem ev_bin {op : BOp} (ha : EvE T c r a x) (hb : EvE T c r b y) (h : BinR op x y z) : EvE T c r (.bin op a b) z := ⟨by simp only [evE, ha.h, hb.h, b_ok, h.h, lift_some]⟩
theorem ev_neg (ha : EvE T c r a x) {i : Int} (h : isInt x = some i) : EvE T c r (.neg a) (.int (-i)) := ⟨by simp only [evE, ha.h, b_ok, h, Option.map_some, lift_some]⟩
theorem ev_cmp {op : COp} (ha : EvE T c r a x) (hb : EvE T c r b y) (h : CmpR op x y k) : EvE T c r (.cmp op a b) (.bool k) := ⟨by simp only [evE, ha.h, hb.h, b_ok, h.h, Option.map_some, lift_some]⟩
theorem ev_chain {p q : COp} {m : ME} (ha : EvE T c r a x) (hb : EvE T c r b y) (h1 : CmpR p x y k) (hc : EvE T c r m z) (h2 : CmpR q y z l) : EvE T c r (.chain p q a b m) (.bool (k && l)) := ⟨by
  simp only [evE, ha.h, hb.h, b_ok, h1.h, lift_some]
  cases k with
  | true => simp only [if_true, hc.h, b_ok, h2.h, Option.map_some, lift_some, Bool.true_and]
  | false => simp only [Bool.false_eq_true, if_false, Bool.false_and]⟩
theorem ev_and (ha : EvE T c r a (.bool k)) (hb : k = true → EvE T c r b (.bool l)) : EvE T c r (.and a b) (.bool (k && l)) := ⟨by
  simp only [evE, ha.h, b_ok, truth_b, lift_some]
  cases k with
  | true => simp only [if_true, (hb rfl).h, Bool.true_and]
  | false => simp only [Bool.false_eq_true, if_false, Bool.false_and]⟩
theorem ev_or (ha : EvE T c r a (.bool k)) (hb : k = false → EvE T c r b (.bool l)) : EvE T c r (.or a b) (.bool (k || l)) := ⟨by
  simp only [evE, ha.h, b_ok, truth_b, lift_some]
  cases k with
  | false => simp only [Bool.false_eq_true, if_false, (hb rfl).h, Bool.false_or]
  | true => simp only [if_true, Bool.true_or]⟩
theorem ev_not (ha : EvE T c r a x) (h : Trth x k) : EvE T c r (.not a) (.bool (!k)) := ⟨by simp only [evE, ha.h, b_ok, h.h, Option.map_some, lift_some]⟩
theorem ev_ite {m : ME} (hc : EvE T c r m x) (ht : Trth x k) (ha : k = true → EvE T c r a y) (hb : k = false → EvE T c r b z) : EvE T c r (.ite m a b) (if k then y else z) := ⟨by
  simp only [evE, hc.h, tru_ok, ht.h, lift_some, b_ok]
  cases k with
  | true => simp only [if_true, (ha rfl).h]
  | false => simp only [Bool.false_eq_true, if_false, (hb rfl).h]⟩
theorem ev_idx (ha : EvE T c r a x) (hb : EvE T c r b y) (h : IdxR x y z) : EvE T c r (.idx a b) z := ⟨by simp only [evE, ha.h, hb.h, b_ok, h.h, lift_some]⟩
theorem ev_sidx {i : Nat} (hi : getA r i = some x) (hb : EvE T c r b y) (h : IdxR x y z) : EvE T c r (.sidx i b) z := ⟨by simp only [evE, hi, hb.h, b_ok, h.h, lift_some]⟩
theorem evs_nil : EvEs T c r [] [] := ⟨rfl⟩
theorem evs_cons (h : EvE T c r e d) (hs : EvEs T c r es ds) : EvEs T c r (e :: es) (d :: ds) := ⟨by simp only [evEs, h.h, hs.h, b_ok]⟩
theorem ev_tup (hs : EvEs T c r es ds) (hl : ds.length ≤ LIM) : EvE T c r (.tup es) (.tuple ds) := ⟨by simp only [evE, hs.h, b_ok, hl, if_true]⟩
theorem ev_lst (hs : EvEs T c r es ds) (hl : ds.length ≤ LIM) : EvE T c r (.lst es) (.list ds) := ⟨by simp only [evE, hs.h, b_ok, hl, if_true]⟩
theorem ev_bi {bi : Bi} (hs : EvEs T c r es ds) (h : BiR bi ds d) : EvE T c r (.bi bi es) d := ⟨by simp only [evE, hs.h, b_ok, h.h, lift_some]⟩
theorem ev_isa {ts : List Ty} (ha : EvE T c r a x) (hp : x.plain = true) (h : (ts.any fun t => isaTy t x) = k) : EvE T c r (.isa a ts) (.bool k) := ⟨by simp only [evE, ha.h, b_ok, hp, if_true, h]⟩
theorem as_nil {n : Nat} : EvAs T c r n [] [] := ⟨rfl⟩
theorem as_cons {n : Nat} (h : EvE T c r e d) (hs : EvAs T c r (n + 1) es ds) : EvAs T c r n (e :: es) (d :: ds) := ⟨by
  simp only [evAs, List.contains_nil, Bool.false_eq_true, if_false, h.h, b_ok, hs.h]⟩
theorem ev_call {f : Nat} {fn : Fn} (hT : T f = some fn) (hio : fn.io = []) (hs : EvAs T c r 0 es ds) (hc : Cal c f ds d) : EvE T c r (.call f es) d := ⟨by
  simp only [evE, hT, hio, ioSlots]
  rw [if_neg (by simp)]
  simp only [hs.h, b_ok, hc.h, List.length_nil, if_true, putMs]⟩
theorem ev_as (h : EvE T c r e x) (h2 : x = y) : EvE T c r e y := h2 ▸ h
theorem ev_rng (ha : EvE T c r a x) (hb : EvE T c r b y) (h : rngD x y = some z) : EvE T c r (.rng a b) z := ⟨by simp only [evE, ha.h, hb.h, b_ok, h, lift_some]⟩
theorem b_add (a b : Int) : BinR .add (.int a) (.int b) (.int (a + b)) := ⟨rfl⟩
theorem b_sub (a b : Int) : BinR .sub (.int a) (.int b) (.int (a - b)) := ⟨rfl⟩
theorem b_mod (a b : Int) (h : 0 < b) : BinR .mod (.int a) (.int b) (.int (a % b)) := ⟨by simp only [binD, h, if_true]⟩
theorem r_lt (a b : Int) : CmpR .lt (.int a) (.int b) (decide (a < b)) := ⟨cmp_lt a b⟩
theorem r_gt (a b : Int) : CmpR .gt (.int a) (.int b) (decide (b < a)) := ⟨cmp_gt a b⟩
theorem r_le (a b : Int) : CmpR .le (.int a) (.int b) (decide (a ≤ b)) := ⟨cmp_le a b⟩
theorem r_ge (a b : Int) : CmpR .ge (.int a) (.int b) (decide (b ≤ a)) := ⟨cmp_ge a b⟩
theorem r_eq (a b : Int) : CmpR .eq (.int a) (.int b) (decide (a = b)) := ⟨cmp_eq a b⟩
theorem r_ne (a b : Int) : CmpR .ne (.int a) (.int b) (!decide (a = b)) := ⟨cmp_ne a b⟩
theorem t_b (b : Bool) : Trth (.bool b) b := ⟨rfl⟩
theorem t_i (i : Int) : Trth (.int i) (i != 0) := ⟨rfl⟩
theorem t_l (xs : List D) : Trth (.list xs) (!xs.isEmpty) := ⟨rfl⟩
theorem m_keep {m : ME} {kk : Nat} (h : EvE T c (prtA r) m d) : evM T c kk (.keep []) m r = .ok d r := by
  show (evE T c m (prtA r)).as r = _
  rw [h.h]; rfl
theorem m_look {m : ME} {kk : Nat} (h : EvE T c (frzA r) m d) (hi : (imm d || (kk == 1 && shal d)) = true) : evM T c kk .look m r = .ok d r := by
  show ((evE T c m (frzA r)).as r).bind _ = _
  rw [h.h]
  show (if (imm d || (kk == 1 && shal d)) = true then Out.ok d r else .bad) = _
  rw [if_pos hi]
theorem t_keep {m : ME} (h : EvE T c (prtA r) m x) (ht : Trth x k) : evT T c (.keep []) m r = .ok k r := by
  show (tru (evE T c m (prtA r))).as r = _
  rw [h.h, tru_ok, ht.h]; rfl
theorem t_look {m : ME} (h : EvE T c (frzA r) m x) (ht : Trth x k) : evT T c .look m r = .ok k r := by
  show (tru (evE T c m (frzA r))).as r = _
  rw [h.h, tru_ok, ht.h]; rfl
theorem i_keep {m : ME} (h : EvE T c (prtA r) m x) (hx : itemsD x = some xs) : evI T c (.keep []) m r = .ok xs r := by
  show ((evE T c m (prtA r)).bind fun x r1 => lift (itemsD x) r1).as r = _
  rw [h.h, b_ok, hx]; rfl
abbrev StS (T : Nat → Option Fn) (c : Nat → List D → OutC) (r : Env) (ss : List MS) (fl : Flow) (r' : Env) : Prop := evSs T c ss r = .ok fl r'
variable {ss : List MS} {s : MS} {fl : Flow} {md : Md} {kk i : Nat} {m : ME}
theorem ss_nil : StS T c r [] .nx r := rfl
theorem ss_nx (h : evS T c s r = .ok .nx r') {r2 : Env} (hs : StS T c r' ss fl r2) : StS T c r (s :: ss) fl r2 := by simp only [StS, evSs, h, b_ok]; exact hs
theorem ss_ret {dd : D} (h : evS T c s r = .ok (.ret kk dd) r') : StS T c r (s :: ss) (.ret kk dd) r' := by simp only [StS, evSs, h, b_ok]
theorem ss_brk (h : evS T c s r = .ok .brk r') : StS T c r (s :: ss) .brk r' := by simp only [StS, evSs, h, b_ok]
theorem s_asg (h : evM T c kk md m r = .ok d r') : evS T c (.asg i kk md m) r = .ok .nx (r'.set i (if kk == 1 && isMut d then .own 1 d else .val d)) := by simp only [evS, h, b_ok]
theorem s_exp (h : evM T c 0 md m r = .ok d r') : evS T c (.exp md m) r = .ok .nx r' := by simp only [evS, h, b_ok]
theorem s_ret (h : evM T c kk md m r = .ok d r') : evS T c (.ret kk md m) r = .ok (.ret kk d) r' := by simp only [evS, h, b_ok]
theorem s_retv {j : Nat} (h : r[j]? = some (.val d)) : evS T c (.retv j) r = .ok (.ret 0 d) r := by simp only [evS, h]
theorem s_retO {j : Nat} (h : r[j]? = some (.own 1 d)) : evS T c (.retv j) r = .ok (.ret 1 d) r := by simp only [evS, h]
theorem s_app {j : Nat} {d' v : D} (h0 : getM r j = some d') (h : evM T c 0 md m r = .ok v r') (h1 : getM r' j = some x) (h2 : appD x v = some y) : evS T c (.app j md m) r = .ok .nx (putM r' j y) := by simp only [evS, h0, lift_some, b_ok, h, h1, h2]
theorem s_if {p q : List MS} (h : evT T c md m r = .ok k r') {r2 : Env} (ha : k = true → StS T c r' p fl r2) (hb : k = false → StS T c r' q fl r2) : evS T c (.ife md m p q) r = .ok fl r2 := by
  simp only [evS, h, b_ok]
  cases k with
  | true => simp only [if_true]; exact ha rfl
  | false => simp only [Bool.false_eq_true, if_false]; exact hb rfl
theorem s_for {t : Tg} {body : List MS} (h : evI T c md m r = .ok xs r') {o : Out Flow} (hl : loopF (fun y rr => match asgG t y rr with
        | none => .bad
        | some r2 => evSs T c body r2) xs r' = o) : evS T c (.for t md m body) r = o := by simp only [evS, h, b_ok]; exact hl
/-- a loop that always goes on, an invariant I -/
theorem loop_inv {f : D → Env → Out Flow} (I : Nat → Env → Prop) : ∀ (xs : List D) (j : Nat) (r : Env), I j r → (∀ (i : Nat) (x : D) (r : Env), xs[i]? = some x → I (j + i) r → ∃ r', (f x r = .ok .nx r' ∨ f x r = .ok .cnt r') ∧ I (j + i + 1) r') → ∃ r', loopF f xs r = .ok .nx r' ∧ I (j + xs.length) r'
  | [], j, r, h, _ => ⟨r, rfl, by simpa using h⟩
  | x :: xs, j, r, h, hs => by
    obtain ⟨r1, e, h1⟩ := hs 0 x r rfl (by simpa using h)
    obtain ⟨r2, e2, h2⟩ := loop_inv I xs (j + 1) r1 (by simpa using h1) fun i y q hi hI => by
      have := hs (i + 1) y q (by simpa using hi) (by rw [show j + (i + 1) = j + 1 + i by omega]; exact hI)
      rw [show j + (i + 1) + 1 = j + 1 + i + 1 by omega] at this
      exact this
    refine ⟨r2, ?_, by rw [List.length_cons, show j + (xs.length + 1) = j + 1 + xs.length by omega]; exact h2⟩
    rcases e with e | e <;> (unfold loopF; rw [e]; exact e2)
/-- a call that returns -/
theorem call_ret {f n : Nat} {fn : Fn} (hT : T f = some fn) (hl : ds.length = fn.np) (hio : fn.io = []) (h : StS T (callF T n) (startE fn ds) fn.body (.ret kk d) r') (hf : (fn.fresh == 0 || kk == 1 || imm d) = true) : Cal (callF T (n + 1)) f ds d := by
  constructor
  rw [call_eq T n f fn ds hT hl, h]
  simp only [finE, hf, if_true, hio, outsE]

theorem set_set {i : Nat} {x y : Slot} : (r.set i x).set i y = r.set i y := by simp
theorem set_back {i : Nat} {x : Slot} : (r.set i x).set i (r.getD i .non) = r := by
  apply List.ext_getElem?
  intro j
  by_cases e : i = j
  · subst e
    by_cases hl : i < r.length
    · rw [List.getElem?_set_self (by simpa using hl), List.getElem?_eq_getElem hl]
      simp [List.getD_eq_getElem?_getD, List.getElem?_eq_getElem hl]
    · rw [List.getElem?_eq_none (by simpa using hl), List.getElem?_eq_none (by simpa using hl)]
  · rw [List.getElem?_set_ne e, List.getElem?_set_ne e]
theorem loopC_map {α : Type} {f : D → Env → Out (Option D)} {w : Env} {h : α → D} {p : α → Bool} {g : α → D} : ∀ (ns : List α) (acc : List D), acc.length + ns.length ≤ LIM → (∀ n ∈ ns, f (h n) w = .ok (if p n then some (g n) else none) w) →
    loopC f (ns.map h) acc w = .ok (acc ++ (ns.filter p).map g) w
  | [], acc, _, _ => by simp [loopC]
  | n :: ns, acc, hl, hf => by
    have e := hf n List.mem_cons_self
    simp only [List.map_cons, loopC, e, b_ok]
    simp only [List.length_cons] at hl
    cases hp : p n with
    | true =>
      simp only [if_true]
      rw [if_pos (by omega), loopC_map ns (acc ++ [g n]) (by simp; omega) fun m hm => hf m (List.mem_cons_of_mem _ hm)]
      simp [List.filter_cons, hp]
    | false =>
      simp only [Bool.false_eq_true, if_false]
      rw [loopC_map ns acc (by omega) fun m hm => hf m (List.mem_cons_of_mem _ hm)]
      simp [List.filter_cons, hp]
theorem ev_comp {α : Type} {h : α → D} {ns : List α} {p : α → Bool} {g : α → D} {elt it : ME} {cd : Option ME} {j : Nat} (hi : EvE T c r it x) (hx : itemsD x = some (ns.map h)) (hw : okW r [j] = true) (hl : ns.length ≤ LIM)
    (hc : ∀ n ∈ ns, evC T c cd (r.set j (.val (h n))) = .ok (p n) (r.set j (.val (h n)))) (he : ∀ n ∈ ns, p n = true → EvE T c (r.set j (.val (h n))) elt (g n)) : EvE T c r (.comp elt (.nm j) it cd) (.list ((ns.filter p).map g)) := by
  refine ⟨?_⟩
  simp only [evE, hi.h, b_ok, hx, lift_some, tgS, hw, if_true]
  rw [loopC_map (h := h) (p := p) (g := g) ns [] (by simpa using hl) fun n hn => ?_]
  · simp only [noX_okk, b_ok, List.nil_append, unwipeE, wipeE]
    rw [set_back]
  · simp only [asgG, wipeE, set_set, hc n hn, b_ok]
    cases hp : p n with
    | true =>
      simp only [if_true]
      rw [(he n hn hp).h]
      simp only [b_ok, Out.wiped, wipeE, set_set]
    | false =>
      simp only [Bool.false_eq_true, if_false, Out.wiped, b_ok, wipeE, set_set]
theorem filt_true {α : Type} (ns : List α) : (ns.filter fun _ => true) = ns := List.filter_eq_self.mpr fun _ _ => rfl
theorem ev_comp0 {α : Type} {h : α → D} {ns : List α} {g : α → D} {elt it : ME} {j : Nat} (hi : EvE T c r it x) (hx : itemsD x = some (ns.map h)) (hw : okW r [j] = true) (hl : ns.length ≤ LIM)
    (he : ∀ n ∈ ns, EvE T c (r.set j (.val (h n))) elt (g n)) : EvE T c r (.comp elt (.nm j) it none) (.list (ns.map g)) := by
  have q := ev_comp (p := fun _ => true) (cd := none) hi hx hw hl (fun _ _ => rfl) fun n hn _ => he n hn
  rw [filt_true] at q
  exact q
theorem c_none : evC T c none r = .ok true r := rfl
theorem c_some {m : ME} (h : EvE T c r m x) (ht : Trth x k) : evC T c (some m) r = .ok k r := by
  show tru (evE T c m r) = _
  rw [h.h, tru_ok, ht.h]; rfl
/-- a while loop, its state encoded in the frame -/
def whileN {σ : Type} (cond : σ → Bool) (step : σ → σ) : Nat → σ → Option σ
  | 0, _ => none
  | n + 1, s => if cond s then whileN cond step n (step s) else some s
theorem whileN_more {σ : Type} {cond : σ → Bool} {step : σ → σ} : ∀ {m n : Nat} {s s' : σ}, whileN cond step m s = some s' → m ≤ n → whileN cond step n s = some s'
  | 0, _, _, _, h, _ => by cases h
  | m + 1, 0, _, _, _, h => by omega
  | m + 1, n + 1, s, s', h, hl => by
    unfold whileN at h ⊢
    split at h
    · rename_i hc
      rw [if_pos hc]
      exact whileN_more h (by omega)
    · rename_i hc
      rw [if_neg hc]
      exact h
theorem while_run {σ : Type} {t : Env → Out Bool} {f : Env → Out Flow} (enc : σ → Env) (cond : σ → Bool) (step : σ → σ) (ht : ∀ s, t (enc s) = .ok (cond s) (enc s)) (hf : ∀ s, cond s = true → f (enc s) = .ok .nx (enc (step s))) :
    ∀ (n : Nat) (s s' : σ), whileN cond step n s = some s' → loopW t f n (enc s) = .ok .nx (enc s')
  | 0, _, _, h => by cases h
  | n + 1, s, s', h => by
    unfold whileN at h
    unfold loopW
    rw [ht s]
    simp only [b_ok]
    cases hc : cond s with
    | true =>
      rw [hc, if_pos rfl] at h
      rw [if_pos rfl, hf s hc]
      exact while_run enc cond step ht hf n _ _ h
    | false =>
      rw [hc, if_neg Bool.false_ne_true] at h
      cases h
      rw [if_neg Bool.false_ne_true]
theorem s_whl {body : List MS} (h : loopW (fun rr => evT T c md m rr) (fun rr => evSs T c body rr) 100000 r = .ok fl r') : evS T c (.whl md m body) r = .ok fl r' := by simp only [evS]; exact h
/-- a for loop, its state encoded in the frame -/
theorem for_run {σ α : Type} {f : D → Env → Out Flow} (h : α → D) (enc : σ → Env) (step : α → σ → σ) : ∀ (ns : List α) (s : σ), (∀ n ∈ ns, ∀ s, f (h n) (enc s) = .ok .nx (enc (step n s)) ∨ f (h n) (enc s) = .ok .cnt (enc (step n s))) → loopF f (ns.map h) (enc s) = .ok .nx (enc (ns.foldl (fun s n => step n s) s))
  | [], s, _ => rfl
  | n :: ns, s, hf => by
    have e := hf n List.mem_cons_self s
    have ih := for_run h enc step ns (step n s) fun m hm => hf m (List.mem_cons_of_mem _ hm)
    rcases e with e | e <;> (simp only [List.map_cons, loopF, e, b_ok]; exact ih)
/-- the same under an invariant -/
theorem for_runP {σ α : Type} {f : D → Env → Out Flow} (h : α → D) (enc : σ → Env) (step : α → σ → σ) (P : Nat → σ → Prop) : ∀ (ns : List α) (j : Nat) (s : σ), P j s → (∀ (i : Nat) (n : α) (s : σ), ns[i]? = some n → P (j + i) s → (f (h n) (enc s) = .ok .nx (enc (step n s)) ∨ f (h n) (enc s) = .ok .cnt (enc (step n s))) ∧ P (j + i + 1) (step n s)) →
    loopF f (ns.map h) (enc s) = .ok .nx (enc (ns.foldl (fun s n => step n s) s)) ∧ P (j + ns.length) (ns.foldl (fun s n => step n s) s)
  | [], j, s, hp, _ => ⟨rfl, hp⟩
  | n :: ns, j, s, hp, hf => by
    obtain ⟨e, h1⟩ := hf 0 n s rfl hp
    have ih := for_runP h enc step P ns (j + 1) (step n s) h1 fun i m q hi hq => by
      have := hf (i + 1) m q (by simpa using hi) (by rw [show j + (i + 1) = j + 1 + i by omega]; exact hq)
      rw [show j + (i + 1) + 1 = j + 1 + i + 1 by omega] at this
      exact this
    rw [show j + (n :: ns).length = j + 1 + ns.length by simp; omega]
    refine ⟨?_, ih.2⟩
    rcases e with e | e <;> (simp only [List.map_cons, loopF, e, b_ok]; exact ih.1)
theorem intsD_map : ∀ ns : List Int, intsD (ns.map .int) = some ns
  | [] => rfl
  | n :: ns => by simp only [List.map_cons, intsD, intsD_map ns, Option.map_some]
theorem bi_sum (ns : List Int) : BiR .sum [.list (ns.map .int)] (.int ns.sum) := ⟨by simp only [biD, intsD_map, Option.map_some]⟩
theorem bi_sumT (ns : List Int) : BiR .sum [.tuple (ns.map .int)] (.int ns.sum) := ⟨by simp only [biD, intsD_map, Option.map_some]⟩
theorem bls_map : ∀ bs : List Bool, bls (bs.map .bool) = some bs
  | [] => rfl
  | b :: bs => by simp only [List.map_cons, bls, bls_map bs, Option.map_some]
theorem bi_all (bs : List Bool) : BiR .all [.list (bs.map .bool)] (.bool (bs.all id))   := by
  constructor
  simp only [biD, bls_map, Option.map_some]
theorem bi_any (bs : List Bool) : BiR .any [.list (bs.map .bool)] (.bool (bs.any id))   := by
  constructor
  simp only [biD, bls_map, Option.map_some]
theorem depth_ints : ∀ ns : List Int, PyData.depthAll (ns.map .int) ≤ 1
  | [] => by simp [PyData.depthAll]
  | n :: ns => by
    have ih := depth_ints ns
    simp only [List.map_cons, PyData.depthAll, PyData.depth]
    omega
theorem alike_ints (ns : List Int) : alikeAllB (ns.map .int) = true := by
  have h1 : ((ns.map PyData.int).all fun x => (ns.map PyData.int).all fun y => PySem.W.alike x y) = true := by
    rw [List.all_eq_true]
    intro x hx
    rw [List.all_eq_true]
    intro y hy
    obtain ⟨i, _, rfl⟩ := List.mem_map.mp hx
    obtain ⟨j, _, rfl⟩ := List.mem_map.mp hy
    rfl
  have h2 : ((ns.map PyData.int).all fun x => !isNon x) = true := by
    rw [List.all_eq_true]
    intro x hx
    obtain ⟨i, _, rfl⟩ := List.mem_map.mp hx
    rfl
  have h3 := depth_ints ns
  unfold alikeAllB
  rw [h1, h2]
  exact decide_eq_true (by omega)
theorem bi_max1 (n : Int) (ns : List Int) : BiR .max1 [.list ((n :: ns).map .int)] (.int (ns.foldl max n)) := by
  constructor
  have e := alike_ints (n :: ns)
  simp only [List.map_cons] at e
  simp only [List.map_cons, biD, e, if_true]
  rw [PySem.W.maxD_ints]
theorem bi_max1T (n : Int) (ns : List Int) : BiR .max1 [.tuple ((n :: ns).map .int)] (.int (ns.foldl max n)) := by
  constructor
  have e := alike_ints (n :: ns)
  simp only [List.map_cons] at e
  simp only [List.map_cons, biD, e, if_true]
  rw [PySem.W.maxD_ints]
theorem bi_min1 (n : Int) (ns : List Int) : BiR .min1 [.list ((n :: ns).map .int)] (.int (ns.foldl min n)) := by
  constructor
  have e := alike_ints (n :: ns)
  simp only [List.map_cons] at e
  simp only [List.map_cons, biD, e, if_true]
  rw [PySem.W.minD_ints]
theorem bi_min1T (n : Int) (ns : List Int) : BiR .min1 [.tuple ((n :: ns).map .int)] (.int (ns.foldl min n)) := by
  constructor
  have e := alike_ints (n :: ns)
  simp only [List.map_cons] at e
  simp only [List.map_cons, biD, e, if_true]
  rw [PySem.W.minD_ints]
theorem bi_min2 (a b : Int) : BiR .min2 [.int a, .int b] (.int (min a b)) := by
  constructor
  have e : (if b < a then b else a) = min a b := by split <;> omega
  simp only [biD, e]
theorem bi_max2 (a b : Int) : BiR .max2 [.int a, .int b] (.int (max a b)) := by
  constructor
  have e : (if b > a then b else a) = max a b := by split <;> omega
  simp only [biD, e]
theorem bi_len (xs : List D) : BiR .len [.list xs] (.int xs.length) := ⟨rfl⟩
theorem bi_lenT (xs : List D) : BiR .len [.tuple xs] (.int xs.length) := ⟨rfl⟩
theorem bi_tup (xs : List D) : BiR .tuple [.list xs] (.tuple xs) := ⟨rfl⟩
theorem bi_int (i : Int) : BiR .int [.int i] (.int i) := ⟨rfl⟩
theorem rng_eq' {i j : Int} (h1 : -(2 ^ 62) ≤ i) (h2 : i < 2 ^ 62) (h3 : -(2 ^ 62) ≤ j) (h4 : j < 2 ^ 62) : rngD (.int i) (.int j) = some (.list ((List.range (j - i).toNat).map fun k => .int (i + (k : Nat)))) := by
  simp only [rngD, h1, h2, h3, h4, and_self, if_true, rangeD]
theorem plain_int (i : Int) : (PyData.int i).plain = true := rfl
theorem plainAll_ints : ∀ ns : List Int, PyData.plainAll (ns.map .int) = true
  | [] => rfl
  | n :: ns => by simp [PyData.plainAll, PyData.plain, plainAll_ints ns]
theorem plain_ints (ns : List Int) : (PyData.list (ns.map .int)).plain = true := plainAll_ints ns
theorem plain_intsT (ns : List Int) : (PyData.tuple (ns.map .int)).plain = true := plainAll_ints ns
theorem atI_nat {α : Type} {xs : List α} {k : Nat} {x : α} (h : xs[k]? = some x) : L2.atI xs (k : Nat) = some x := by
  have hl : k < xs.length := (List.getElem?_eq_some_iff.mp h).1
  unfold L2.atI L2.ixN
  rw [if_pos (by omega), if_pos (by omega)]
  exact h

theorem b_mul (a b : Int) (h : mulOk a b = true) : BinR .mul (.int a) (.int b) (.int (a * b)) := ⟨by simp only [binD, h, if_true]⟩
theorem mul_ok_r {a b : Int} (h1 : -(2 ^ 64) < b) (h2 : b < 2 ^ 64) : mulOk a b = true := decide_eq_true (.inr (.inl ⟨h1, h2⟩))
theorem b_fdiv (a b : Int) (h : divOk b = true) : BinR .fdiv (.int a) (.int b) (.int (a / b)) := ⟨by simp only [binD, h, if_true]⟩
theorem s_set {j : Nat} {kx : ME} {v d0 kd d' : D} (h : evM T c 0 md m r = .ok v r') (h1 : getM r' j = some d0) (hk : EvE T c (prtA r') kx kd) (h2 : setD d0 kd v = some d') : evS T c (.set j kx md m) r = .ok .nx (putM r' j d') := by
  have hk' : evM T c 0 (.keep []) kx r' = .ok kd r' := m_keep hk
  simp only [evS, h, b_ok, h1, lift_some, hk', h2]
/-- a call that changes lists -/
theorem call_retIo {f n : Nat} {fn : Fn} {os : List D} (hT : T f = some fn) (hl : ds.length = fn.np) (h : StS T (callF T n) (startE fn ds) fn.body (.ret kk d) r') (ho : outsE r' fn.io = some os) (hf : (fn.fresh == 0 || kk == 1 || imm d) = true) : callF T (n + 1) f ds = .ok d os := by
  rw [call_eq T n f fn ds hT hl, h]
  simp only [finE, hf, if_true, ho]
/-- a loop that may be left -/
theorem loop_brk {f : D → Env → Out Flow} (I : Nat → Env → Prop) (B : Env → Prop) : ∀ (xs : List D) (j : Nat) (r : Env), I j r → (∀ (i : Nat) (x : D) (r : Env), xs[i]? = some x → I (j + i) r → ∃ r', (f x r = .ok .nx r' ∧ I (j + i + 1) r') ∨ (f x r = .ok .brk r' ∧ B r')) → ∃ r', loopF f xs r = .ok .nx r' ∧ (I (j + xs.length) r' ∨ B r')
  | [], j, r, h, _ => ⟨r, rfl, .inl (by simpa using h)⟩
  | x :: xs, j, r, h, hs => by
    obtain ⟨r1, ⟨e, h1⟩ | ⟨e, h1⟩⟩ := hs 0 x r rfl (by simpa using h)
    · obtain ⟨r2, e2, h2⟩ := loop_brk I B xs (j + 1) r1 (by simpa using h1) fun i y q hi hI => by
        have := hs (i + 1) y q (by simpa using hi) (by rw [show j + (i + 1) = j + 1 + i by omega]; exact hI)
        rw [show j + (i + 1) + 1 = j + 1 + i + 1 by omega] at this
        exact this
      refine ⟨r2, by unfold loopF; rw [e]; exact e2, ?_⟩
      rw [List.length_cons, show j + (xs.length + 1) = j + 1 + xs.length by omega]
      exact h2
    · exact ⟨r1, by unfold loopF; rw [e]; rfl, .inr h1⟩
end
end Cw
end

section
namespace Cw
open PySem PySem.Spec PyProof.Rows L2

/-- plain: 0 value, 1 part -/
def b_plain : List MS := [
  .ife (.keep []) (.isa (.var 0) [.list, .tuple]) [
    .ret 0 (.keep []) (.bi .tuple [(.comp (.call 0 [(.var 1)]) (.nm 1) (.var 0) none)])] [],
  .ret 0 (.keep []) (.var 0)]
/-- require: 0 holds, 1 at -/
def b_require : List MS := [
  .ife (.keep []) (.not (.var 0)) [
    .bot] []]
/-- is_integer: 0 value -/
def b_is_integer : List MS := [
  .ret 0 (.keep []) (.and (.isa (.var 0) [.int]) (.not (.isa (.var 0) [.bool])))]
/-- is_between: 0 value, 1 low, 2 high -/
def b_is_between : List MS := [
  .ret 0 (.keep []) (.and (.call 2 [(.var 0)]) (.chain .le .le (.var 1) (.var 0) (.var 2)))]
/-- is_sequence: 0 value, 1 least, 2 most -/
def b_is_sequence : List MS := [
  .ret 0 (.keep []) (.and (.isa (.var 0) [.list, .tuple]) (.chain .le .le (.var 1) (.bi .len [(.var 0)]) (.var 2)))]
/-- all_orders: 0 count, 1 rows, 2 _, 3 row, 4 number -/
def b_all_orders : List MS := [
  .asg 1 0 (.keep []) (.lst [(.tup [])]),
  .for (.nm 2) (.keep []) (.rng (.con (.int 0)) (.var 0)) [
    .asg 1 0 (.keep []) (.comp2 (.bin .add (.var 3) (.tup [(.var 4)])) (.nm 3) (.var 1) none (.nm 4) (.rng (.con (.int 0)) (.var 0)) (some (.cmp .nin (.var 4) (.var 3))))],
  .retv 1]
/-- is_ship: 0 value, 1 come, 2 hours -/
def b_is_ship : List MS := [
  .ife (.keep []) (.not (.call 4 [(.var 0), (.con (.int 2)), (.con (.int 2))])) [
    .ret 0 (.keep []) (.con (.bool false))] [],
  .asgT [1, 2] (.keep []) (.var 0),
  .ret 0 (.keep []) (.and (.call 3 [(.var 1), (.con (.int 0)), (.con (.int 200))]) (.call 3 [(.var 2), (.con (.int 1)), (.con (.int 50))]))]
/-- are_ships: 0 value, 1 ship -/
def b_are_ships : List MS := [
  .ret 0 (.keep []) (.and (.call 4 [(.var 0), (.con (.int 0)), (.con (.int 7))]) (.bi .all [(.comp (.call 6 [(.var 1)]) (.nm 1) (.var 0) none)]))]
/-- require_quay: 0 ships, 1 berths -/
def b_require_quay : List MS := [
  .exp (.keep []) (.call 1 [(.call 7 [(.var 0)]), (.con (.int 0))]),
  .exp (.keep []) (.call 1 [(.call 3 [(.var 1), (.con (.int 1)), (.con (.int 3))]), (.con (.int 1))])]
/-- turn_of: 0 ships, 1 rows, 2 number, 3 _ -/
def b_turn_of : List MS := [
  .asg 1 0 (.keep []) (.bi .sorted [(.comp (.tup [(.idx (.idx (.var 0) (.var 2)) (.con (.int 0))), (.var 2)]) (.nm 2) (.rng (.con (.int 0)) (.bi .len [(.var 0)])) none)]),
  .ret 1 (.keep []) (.comp (.var 2) (.tup [(.nm 3), (.nm 2)]) (.var 1) none)]
/-- hours_begun: 0 ships, 1 order, 2 berths, 3 begun, 4 free, 5 number, 6 berth, 7 come, 8 hours -/
def b_hours_begun : List MS := [
  .asg 3 1 (.keep []) (.lrep [(.con (.int 0))] (.bi .len [(.var 0)])),
  .asg 4 1 (.keep []) (.lrep [(.con (.int 0))] (.var 2)),
  .for (.nm 5) (.keep []) (.var 1) [
    .asgT [7, 8] (.keep []) (.idx (.var 0) (.var 5)),
    .asg 6 0 .look (.mt .index (.var 4) [(.bi .min1 [(.var 4)])]),
    .set 3 (.var 5) (.keep []) (.bi .max2 [(.var 7), (.sidx 4 (.var 6))]),
    .set 4 (.var 6) (.keep []) (.bin .add (.sidx 3 (.var 5)) (.var 8))],
  .retv 3]
/-- hours_waited: 0 ships, 1 begun, 2 hour, 3 ship -/
def b_hours_waited : List MS := [
  .ret 0 (.keep []) (.bi .sum [(.comp (.bin .sub (.var 2) (.idx (.var 3) (.con (.int 0)))) (.tup [(.nm 2), (.nm 3)]) (.zip (.var 1) (.var 0)) none)])]
/-- in_turn: 0 ships, 1 berths -/
def b_in_turn : List MS := [
  .exp (.keep []) (.call 8 [(.var 0), (.var 1)]),
  .ret 0 (.keep []) (.bi .tuple [(.call 10 [(.var 0), (.call 9 [(.var 0)]), (.var 1)])])]
/-- waiting: 0 ships, 1 berths -/
def b_waiting : List MS := [
  .exp (.keep []) (.call 8 [(.var 0), (.var 1)]),
  .ret 0 (.keep []) (.call 11 [(.var 0), (.call 10 [(.var 0), (.call 9 [(.var 0)]), (.var 1)])])]
/-- least_waiting: 0 ships, 1 order -/
def b_least_waiting : List MS := [
  .exp (.keep []) (.call 1 [(.call 7 [(.var 0)]), (.con (.int 0))]),
  .ret 0 (.keep []) (.bi .min1 [(.comp (.tup [(.call 11 [(.var 0), (.call 10 [(.var 0), (.var 1), (.con (.int 1))])]), (.var 1)]) (.nm 1) (.call 5 [(.bi .len [(.var 0)])]) none)])]
/-- last_free: 0 ships, 1 berths, 2 begun, 3 hour, 4 ship -/
def b_last_free : List MS := [
  .exp (.keep []) (.call 8 [(.var 0), (.var 1)]),
  .asg 2 0 (.keep []) (.call 10 [(.var 0), (.call 9 [(.var 0)]), (.var 1)]),
  .ret 0 (.keep []) (.maxd (.comp (.bin .add (.var 3) (.idx (.var 4) (.con (.int 1)))) (.tup [(.nm 3), (.nm 4)]) (.zip (.var 2) (.var 0)) none) 0)]
/-- _law_numbers: 0 script, 1 row, 2 single, 3 left, 4 k, 5 stirred -/
def b__law_numbers : List MS := [
  .asg 1 1 (.keep []) (.lst []),
  .for (.nm 2) (.keep []) (.slc (.var 0) none (some (.con (.int 63)))) [
    .ife (.keep []) (.cmp .ge (.var 2) (.bin .pow (.con (.int 10)) (.con (.int 18)))) [
      .asg 3 0 (.keep []) (.var 2),
      .for (.nm 4) (.keep []) (.rng (.con (.int 0)) (.con (.int 60))) [
        .ife (.keep []) (.cmp .eq (.var 3) (.con (.int 0))) [
          .brk] [],
        .app 1 (.keep []) (.bin .mod (.bi .int [(.var 3)]) (.con (.int 997))),
        .asg 3 0 (.keep []) (.bin .fdiv (.var 3) (.con (.int 997)))]] [
      .for (.nm 4) (.keep []) (.rng (.con (.int 0)) (.con (.int 4))) [
        .asg 5 0 (.keep []) (.bin .mod (.bi .int [(.bin .add (.bin .add (.bin .mul (.var 2) (.con (.int 48271))) (.bin .mul (.var 4) (.con (.int 69621)))) (.con (.int 11)))]) (.con (.int 2147483647))),
        .app 1 (.keep []) (.bin .mod (.bi .int [(.bin .add (.bin .mul (.var 5) (.con (.int 16807))) (.var 4))]) (.con (.int 2147483629)))]]],
  .ife .look (.cmp .eq (.bi .len [(.var 1)]) (.con (.int 0))) [
    .app 1 (.keep []) (.con (.int 0))] [],
  .retv 1]
/-- _law_draw: 0 row, 1 at, 2 limit, 3 stirred -/
def b__law_draw : List MS := [
  .ife (.keep []) (.cmp .lt (.var 1) (.bi .len [(.var 0)])) [
    .ret 0 (.keep []) (.bin .mod (.bi .int [(.idx (.var 0) (.var 1))]) (.var 2))] [],
  .asg 3 0 (.keep []) (.bin .mod (.bi .int [(.bin .add (.bin .add (.bin .mul (.idx (.var 0) (.bin .mod (.bi .int [(.var 1)]) (.bi .len [(.var 0)]))) (.con (.int 40692))) (.bin .mul (.var 1) (.con (.int 7919)))) (.con (.int 3)))]) (.con (.int 2147483399))),
  .ret 0 (.keep []) (.bin .mod (.bi .int [(.bin .mod (.bi .int [(.bin .add (.bin .mul (.var 3) (.con (.int 48271))) (.var 1))]) (.con (.int 2147483647)))]) (.var 2))]
/-- _law_take: 0 row, 1 spot, 2 limit -/
def b__law_take : List MS := [
  .set 1 (.con (.int 0)) (.keep []) (.bin .add (.sidx 1 (.con (.int 0))) (.con (.int 1))),
  .ret 0 (.keep []) (.call 17 [(.var 0), (.bin .sub (.sidx 1 (.con (.int 0))) (.con (.int 1))), (.var 2)])]
/-- _law_perms: 0 many, 1 made, 2 k, 3 longer, 4 one, 5 j -/
def b__law_perms : List MS := [
  .asg 1 0 (.keep []) (.lst [(.tup [])]),
  .for (.nm 2) (.keep []) (.rng (.con (.int 0)) (.var 0)) [
    .asg 3 0 (.keep []) (.lst []),
    .for (.nm 4) (.keep []) (.var 1) [
      .asg 3 0 (.keep []) (.bin .add (.var 3) (.comp (.bin .add (.var 4) (.tup [(.var 5)])) (.nm 5) (.rng (.con (.int 0)) (.var 0)) (some (.cmp .nin (.var 5) (.var 4)))))],
    .asg 1 0 (.keep []) (.var 3)],
  .retv 1]
def b_law_L6 : List MS := [
  .asg 17 0 (.keep []) (.idx (.var 18) (.con (.int 1))),
  .asg 20 0 (.keep []) (.comp (.var 22) (.nm 22) (.rng (.con (.int 0)) (.con (.int 3))) (some (.and (.cmp .ntn (.sidx 13 (.var 22)) (.con .none)) (.and (.cmp .le (.sidx 13 (.var 22)) (.var 14)) (.cmp .lt (.var 14) (.bin .add (.sidx 13 (.var 22)) (.idx (.idx (.var 9) (.var 22)) (.con (.int 1))))))))),
  .asg 21 0 (.keep []) (.comp (.var 22) (.nm 22) (.rng (.con (.int 0)) (.con (.int 3))) (some (.and (.cmp .isn (.sidx 13 (.var 22)) (.con .none)) (.cmp .lt (.tup [(.idx (.idx (.var 9) (.var 22)) (.con (.int 0))), (.var 22)]) (.tup [(.idx (.idx (.var 9) (.var 17)) (.con (.int 0))), (.var 17)]))))),
  .ife (.keep []) (.and (.cmp .isn (.sidx 13 (.var 17)) (.con .none)) (.and (.cmp .le (.idx (.idx (.var 9) (.var 17)) (.con (.int 0))) (.var 14)) (.and (.cmp .lt (.bi .len [(.var 20)]) (.var 10)) (.cmp .eq (.bi .len [(.var 21)]) (.con (.int 0)))))) [
    .set 13 (.var 17) (.keep []) (.var 14)] []]
def b_law_L5 : List MS := [
  .for (.nm 18) (.keep []) (.bi .sorted [(.comp (.tup [(.idx (.idx (.var 9) (.var 17)) (.con (.int 0))), (.var 17)]) (.nm 17) (.rng (.con (.int 0)) (.con (.int 3))) none)]) b_law_L6]
def b_law_L4 : List MS := [
  .asg 13 1 (.keep []) (.lrep [(.con .none)] (.con (.int 3))),
  .for (.nm 14) (.keep []) (.rng (.con (.int 0)) (.con (.int 30))) b_law_L5,
  .ife .look (.or (.cmp .ne (.call 12 [(.var 9), (.var 10)]) (.bi .tuple [(.var 13)])) (.cmp .ne (.call 13 [(.var 9), (.var 10)]) (.bin .sub (.bin .sub (.bin .sub (.bi .sum [(.var 13)]) (.var 5)) (.var 6)) (.var 7)))) [
    .ret 0 (.keep []) (.con (.bool false))] [],
  .ife (.keep []) (.cmp .ne (.call 15 [(.var 9), (.var 10)]) (.bi .max1 [(.comp (.bin .add (.sidx 13 (.var 17)) (.idx (.var 8) (.var 17))) (.nm 17) (.rng (.con (.int 0)) (.con (.int 3))) none)])) [
    .ret 0 (.keep []) (.con (.bool false))] []]
def b_law_L7 : List MS := [
  .asg 15 0 (.keep []) (.con (.int 0)),
  .asg 16 0 (.keep []) (.con (.int 0)),
  .for (.nm 17) (.keep []) (.var 12) [
    .asg 19 0 (.keep []) (.bi .max2 [(.var 15), (.idx (.idx (.var 9) (.var 17)) (.con (.int 0)))]),
    .asg 16 0 (.keep []) (.bin .sub (.bin .add (.var 16) (.var 19)) (.idx (.idx (.var 9) (.var 17)) (.con (.int 0)))),
    .asg 15 0 (.keep []) (.bin .add (.var 19) (.idx (.var 8) (.var 17)))],
  .asg 11 0 (.keep []) (.ite (.or (.cmp .isn (.var 11) (.con .none)) (.cmp .lt (.tup [(.var 16), (.var 12)]) (.var 11))) (.tup [(.var 16), (.var 12)]) (.var 11))]
def b_law_L3 : List MS := [
  .asg 4 0 (.keep []) (.bin .add (.var 4) (.con (.int 1))),
  .ife (.keep []) (.cmp .eq (.bin .mod (.bi .int [(.var 4)]) (.con (.int 30))) (.var 3)) [
    .asg 8 0 (.io []) (.comp (.bin .add (.con (.int 1)) (.call 18 [(.var 1), (.var 2), (.con (.int 4))])) (.nm 17) (.rng (.con (.int 0)) (.con (.int 3))) none),
    .asg 9 0 (.keep []) (.tup [(.tup [(.var 5), (.idx (.var 8) (.con (.int 0)))]), (.tup [(.var 6), (.idx (.var 8) (.con (.int 1)))]), (.tup [(.var 7), (.idx (.var 8) (.con (.int 2)))])]),
    .for (.nm 10) (.keep []) (.rng (.con (.int 1)) (.con (.int 4))) b_law_L4,
    .asg 11 0 (.keep []) (.con .none),
    .for (.nm 12) (.keep []) (.call 19 [(.con (.int 3))]) b_law_L7,
    .ife (.keep []) (.or (.cmp .ne (.call 14 [(.var 9)]) (.var 11)) (.cmp .ne (.call 13 [(.var 9), (.con (.int 3))]) (.con (.int 0)))) [
      .ret 0 (.keep []) (.con (.bool false))] []] []]
def b_law_L2 : List MS := [
  .for (.nm 7) (.keep []) (.rng (.con (.int 0)) (.con (.int 4))) b_law_L3]
def b_law_L1 : List MS := [
  .for (.nm 6) (.keep []) (.rng (.con (.int 0)) (.con (.int 4))) b_law_L2]
/-- law: 0 script, 1 row, 2 spot, 3 part, 4 number, 5 a, 6 b, 7 c, 8 hours, 9 ships, 10 berths, 11 best, 12 order, 13 begun, 14 clock, 15 here, 16 total, 17 k, 18 one, 19 start, 20 lying, 21 ahead, 22 j -/
def b_law : List MS := [
  .asg 1 0 (.keep []) (.call 16 [(.var 0)]),
  .asg 2 1 (.keep []) (.lst [(.con (.int 0))]),
  .asg 3 0 (.io []) (.call 18 [(.var 1), (.var 2), (.con (.int 30))]),
  .asg 4 0 (.keep []) (.con (.int 0)),
  .for (.nm 5) (.keep []) (.rng (.con (.int 0)) (.con (.int 4))) b_law_L1,
  .ret 0 (.keep []) (.con (.bool true))]
def fns : List Fn := [⟨1, 2, [], 0, b_plain⟩, ⟨2, 2, [], 1, b_require⟩, ⟨1, 1, [], 0, b_is_integer⟩, ⟨3, 3, [], 0, b_is_between⟩, ⟨3, 3, [], 0, b_is_sequence⟩, ⟨1, 5, [], 0, b_all_orders⟩, ⟨1, 3, [], 0, b_is_ship⟩, ⟨1, 2, [], 0, b_are_ships⟩, ⟨2, 2, [], 1, b_require_quay⟩, ⟨1, 4, [], 1, b_turn_of⟩, ⟨3, 9, [], 1, b_hours_begun⟩, ⟨2, 4, [], 0, b_hours_waited⟩, ⟨2, 2, [], 0, b_in_turn⟩, ⟨2, 2, [], 0, b_waiting⟩, ⟨1, 2, [], 0, b_least_waiting⟩, ⟨2, 5, [], 0, b_last_free⟩, ⟨1, 6, [], 1, b__law_numbers⟩, ⟨3, 4, [], 0, b__law_draw⟩, ⟨3, 3, [1], 0, b__law_take⟩, ⟨1, 6, [], 0, b__law_perms⟩, ⟨1, 23, [], 1, b_law⟩]
def tab : Nat → Option Fn := fun i => fns[i]?
abbrev f_plain : Nat := 0
abbrev f_require : Nat := 1
abbrev f_is_integer : Nat := 2
abbrev f_is_between : Nat := 3
abbrev f_is_sequence : Nat := 4
abbrev f_all_orders : Nat := 5
abbrev f_is_ship : Nat := 6
abbrev f_are_ships : Nat := 7
abbrev f_require_quay : Nat := 8
abbrev f_turn_of : Nat := 9
abbrev f_hours_begun : Nat := 10
abbrev f_hours_waited : Nat := 11
abbrev f_in_turn : Nat := 12
abbrev f_waiting : Nat := 13
abbrev f_least_waiting : Nat := 14
abbrev f_last_free : Nat := 15
abbrev f__law_numbers : Nat := 16
abbrev f__law_draw : Nat := 17
abbrev f__law_take : Nat := 18
abbrev f__law_perms : Nat := 19
abbrev f_law : Nat := 20

abbrev prg : Program := PySem.Challenge.pw_cornwright_k66_all_small_ships
def defOf1 : Stmt → Option He.DefD
  | .FunctionDef n a b _ _ _ sc _ _ _ => some ⟨(n, none), n, n, a, b, sc, [], []⟩
  | _ => none
def glo1 : Stmt → Option He.Fa
  | .FunctionDef n _ _ _ _ _ _ _ _ _ => some (.glo n)
  | .Assign [.Name x _] (.Constant (.int i) _ _) _ => some (.int x i)
  | _ => none
def fnD : List He.DefD := prg.main.body.filterMap defOf1
def bltL : List Str := ["len", "isinstance", "int", "bool", "str", "list", "tuple", "range", "min", "max", "sum", "sorted", "all", "any", "abs", "enumerate", "zip", "reversed", "set"]
def faD : List He.Fa := prg.main.body.filterMap glo1 ++ bltL.map .free
abbrev Rw : PySem.W.OpenRow := PySem.W.OpenLaw.row PySem.Challenge.rw_cornwright_k66_all_small_ships
abbrev hkD : PySem.W.Hook := He.hookD 4 faD fnD
def obD (s : PySem.W.SharedT) : He.AlD := He.obsDG 4 faD fnD (HandSHeadRun.getT s)
theorem ob_eq (s : PySem.W.SharedT) : obD s = hkD.obs s.abs := He.obsDG_eq (HandSHeadRun.getT_eq s)
def names : List Str := ["plain", "CornError", "BadValue", "require", "is_integer", "is_between", "is_sequence", "all_orders", "MOST_SHIPS", "MOST_COME", "MOST_HOURS", "MOST_BERTHS", "is_ship", "are_ships", "require_quay", "turn_of", "hours_begun", "hours_waited", "in_turn", "waiting", "least_waiting", "last_free", "_law_numbers", "_law_draw", "_law_take", "_law_perms"]
def topS (i : Nat) : Stmt := prg.main.body.getD i (.Pass ⟨0, 0, 0, 0⟩)
def ixOf (x : Str) : Nat := (prg.main.body.findIdx? fun | .FunctionDef n _ _ _ _ _ _ _ _ _ => decide (n = x) | _ => false).getD 0
def nmL : List (Str × Nat) := [("plain", 0), ("require", 1), ("is_integer", 2), ("is_between", 3), ("is_sequence", 4), ("all_orders", 5), ("is_ship", 6), ("are_ships", 7), ("require_quay", 8), ("turn_of", 9), ("hours_begun", 10), ("hours_waited", 11), ("in_turn", 12), ("waiting", 13), ("least_waiting", 14), ("last_free", 15), ("_law_numbers", 16), ("_law_draw", 17), ("_law_take", 18), ("_law_perms", 19), ("law", 20)]
def cstL : List (Str × Int) := [("MOST_SHIPS", 7), ("MOST_COME", 200), ("MOST_HOURS", 50), ("MOST_BERTHS", 3)]
def gcdL : List Str := []
def cp : CkP := ⟨[], fun x => nmL.lookup x, fun x => (cstL.lookup x).map PyData.int, fun x => bltL.contains x, tab, fun x => gcdL.contains x⟩
abbrev st_plain : Stmt := topS 1
def d_plain : He.DefD := ⟨("plain", none), "plain", "plain", defArgs st_plain, defBody st_plain, defScope st_plain, [], []⟩
def N_plain : List Str := ["value", "part"]
def F_plain : Fn := ⟨1, 2, [], 0, b_plain⟩
abbrev st_require : Stmt := topS 6
def d_require : He.DefD := ⟨("require", none), "require", "require", defArgs st_require, defBody st_require, defScope st_require, [], []⟩
def N_require : List Str := ["holds", "at"]
def F_require : Fn := ⟨2, 2, [], 1, b_require⟩
abbrev st_is_integer : Stmt := topS 7
def d_is_integer : He.DefD := ⟨("is_integer", none), "is_integer", "is_integer", defArgs st_is_integer, defBody st_is_integer, defScope st_is_integer, [], []⟩
def N_is_integer : List Str := ["value"]
def F_is_integer : Fn := ⟨1, 1, [], 0, b_is_integer⟩
abbrev st_is_between : Stmt := topS 8
def d_is_between : He.DefD := ⟨("is_between", none), "is_between", "is_between", defArgs st_is_between, defBody st_is_between, defScope st_is_between, [], []⟩
def N_is_between : List Str := ["value", "low", "high"]
def F_is_between : Fn := ⟨3, 3, [], 0, b_is_between⟩
abbrev st_is_sequence : Stmt := topS 9
def d_is_sequence : He.DefD := ⟨("is_sequence", none), "is_sequence", "is_sequence", defArgs st_is_sequence, defBody st_is_sequence, defScope st_is_sequence, [], []⟩
def N_is_sequence : List Str := ["value", "least", "most"]
def F_is_sequence : Fn := ⟨3, 3, [], 0, b_is_sequence⟩
abbrev st_all_orders : Stmt := topS 11
def d_all_orders : He.DefD := ⟨("all_orders", none), "all_orders", "all_orders", defArgs st_all_orders, defBody st_all_orders, defScope st_all_orders, [], []⟩
def N_all_orders : List Str := ["count", "rows", "_", "row", "number"]
def F_all_orders : Fn := ⟨1, 5, [], 0, b_all_orders⟩
abbrev st_is_ship : Stmt := topS 17
def d_is_ship : He.DefD := ⟨("is_ship", none), "is_ship", "is_ship", defArgs st_is_ship, defBody st_is_ship, defScope st_is_ship, [], []⟩
def N_is_ship : List Str := ["value", "come", "hours"]
def F_is_ship : Fn := ⟨1, 3, [], 0, b_is_ship⟩
abbrev st_are_ships : Stmt := topS 18
def d_are_ships : He.DefD := ⟨("are_ships", none), "are_ships", "are_ships", defArgs st_are_ships, defBody st_are_ships, defScope st_are_ships, [], []⟩
def N_are_ships : List Str := ["value", "ship"]
def F_are_ships : Fn := ⟨1, 2, [], 0, b_are_ships⟩
abbrev st_require_quay : Stmt := topS 19
def d_require_quay : He.DefD := ⟨("require_quay", none), "require_quay", "require_quay", defArgs st_require_quay, defBody st_require_quay, defScope st_require_quay, [], []⟩
def N_require_quay : List Str := ["ships", "berths"]
def F_require_quay : Fn := ⟨2, 2, [], 1, b_require_quay⟩
abbrev st_turn_of : Stmt := topS 20
def d_turn_of : He.DefD := ⟨("turn_of", none), "turn_of", "turn_of", defArgs st_turn_of, defBody st_turn_of, defScope st_turn_of, [], []⟩
def N_turn_of : List Str := ["ships", "rows", "number", "_"]
def F_turn_of : Fn := ⟨1, 4, [], 1, b_turn_of⟩
abbrev st_hours_begun : Stmt := topS 21
def d_hours_begun : He.DefD := ⟨("hours_begun", none), "hours_begun", "hours_begun", defArgs st_hours_begun, defBody st_hours_begun, defScope st_hours_begun, [], []⟩
def N_hours_begun : List Str := ["ships", "order", "berths", "begun", "free", "number", "berth", "come", "hours"]
def F_hours_begun : Fn := ⟨3, 9, [], 1, b_hours_begun⟩
abbrev st_hours_waited : Stmt := topS 22
def d_hours_waited : He.DefD := ⟨("hours_waited", none), "hours_waited", "hours_waited", defArgs st_hours_waited, defBody st_hours_waited, defScope st_hours_waited, [], []⟩
def N_hours_waited : List Str := ["ships", "begun", "hour", "ship"]
def F_hours_waited : Fn := ⟨2, 4, [], 0, b_hours_waited⟩
abbrev st_in_turn : Stmt := topS 23
def d_in_turn : He.DefD := ⟨("in_turn", none), "in_turn", "in_turn", defArgs st_in_turn, defBody st_in_turn, defScope st_in_turn, [], []⟩
def N_in_turn : List Str := ["ships", "berths"]
def F_in_turn : Fn := ⟨2, 2, [], 0, b_in_turn⟩
abbrev st_waiting : Stmt := topS 24
def d_waiting : He.DefD := ⟨("waiting", none), "waiting", "waiting", defArgs st_waiting, defBody st_waiting, defScope st_waiting, [], []⟩
def N_waiting : List Str := ["ships", "berths"]
def F_waiting : Fn := ⟨2, 2, [], 0, b_waiting⟩
abbrev st_least_waiting : Stmt := topS 25
def d_least_waiting : He.DefD := ⟨("least_waiting", none), "least_waiting", "least_waiting", defArgs st_least_waiting, defBody st_least_waiting, defScope st_least_waiting, [], []⟩
def N_least_waiting : List Str := ["ships", "order"]
def F_least_waiting : Fn := ⟨1, 2, [], 0, b_least_waiting⟩
abbrev st_last_free : Stmt := topS 26
def d_last_free : He.DefD := ⟨("last_free", none), "last_free", "last_free", defArgs st_last_free, defBody st_last_free, defScope st_last_free, [], []⟩
def N_last_free : List Str := ["ships", "berths", "begun", "hour", "ship"]
def F_last_free : Fn := ⟨2, 5, [], 0, b_last_free⟩
abbrev st__law_numbers : Stmt := topS 28
def d__law_numbers : He.DefD := ⟨("_law_numbers", none), "_law_numbers", "_law_numbers", defArgs st__law_numbers, defBody st__law_numbers, defScope st__law_numbers, [], []⟩
def N__law_numbers : List Str := ["script", "row", "single", "left", "k", "stirred"]
def F__law_numbers : Fn := ⟨1, 6, [], 1, b__law_numbers⟩
abbrev st__law_draw : Stmt := topS 29
def d__law_draw : He.DefD := ⟨("_law_draw", none), "_law_draw", "_law_draw", defArgs st__law_draw, defBody st__law_draw, defScope st__law_draw, [], []⟩
def N__law_draw : List Str := ["row", "at", "limit", "stirred"]
def F__law_draw : Fn := ⟨3, 4, [], 0, b__law_draw⟩
abbrev st__law_take : Stmt := topS 30
def d__law_take : He.DefD := ⟨("_law_take", none), "_law_take", "_law_take", defArgs st__law_take, defBody st__law_take, defScope st__law_take, [], []⟩
def N__law_take : List Str := ["row", "spot", "limit"]
def F__law_take : Fn := ⟨3, 3, [1], 0, b__law_take⟩
abbrev st__law_perms : Stmt := topS 31
def d__law_perms : He.DefD := ⟨("_law_perms", none), "_law_perms", "_law_perms", defArgs st__law_perms, defBody st__law_perms, defScope st__law_perms, [], []⟩
def N__law_perms : List Str := ["many", "made", "k", "longer", "one", "j"]
def F__law_perms : Fn := ⟨1, 6, [], 0, b__law_perms⟩
abbrev st_law : Stmt := topS 32
def d_law : He.DefD := ⟨("law", none), "law", "law", defArgs st_law, defBody st_law, defScope st_law, [], []⟩
def N_law : List Str := ["script", "row", "spot", "part", "number", "a", "b", "c", "hours", "ships", "berths", "best", "order", "begun", "clock", "here", "total", "k", "one", "start", "lying", "ahead", "j"]
def F_law : Fn := ⟨1, 23, [], 1, b_law⟩
section
variable {K : Fr} {h : Heap} {mg : Str → Option Value}
theorem ft_plain (KX : K.In h) (G : h.Ns mainGlobals mg) (c : He.SaysD faD fnD K) : FnTab K mg cp "plain" F_plain := by
  obtain ⟨fd, F⟩ := c.def_ 0 (d := d_plain) (by kernel_rfl)
  have b : L2.Binds K fd ["value"] [] := F.bindsN fun _ _ _ _ _ _ us hl => match us, hl with | [_], _ => by kernel_rfl
  exact ⟨_, fd, _, _, _, _, _, N_plain, _, F, He.glo_ok KX G (c.fact 0 (f := .glo "plain") (by kernel_rfl)), b, by kernel_rfl⟩
theorem ft_require (KX : K.In h) (G : h.Ns mainGlobals mg) (c : He.SaysD faD fnD K) : FnTab K mg cp "require" F_require := by
  obtain ⟨fd, F⟩ := c.def_ 1 (d := d_require) (by kernel_rfl)
  have b : L2.Binds K fd ["holds", "at"] [] := F.bindsN fun _ _ _ _ _ _ us hl => match us, hl with | [_, _], _ => by kernel_rfl
  exact ⟨_, fd, _, _, _, _, _, N_require, _, F, He.glo_ok KX G (c.fact 1 (f := .glo "require") (by kernel_rfl)), b, by kernel_rfl⟩
theorem ft_is_integer (KX : K.In h) (G : h.Ns mainGlobals mg) (c : He.SaysD faD fnD K) : FnTab K mg cp "is_integer" F_is_integer := by
  obtain ⟨fd, F⟩ := c.def_ 2 (d := d_is_integer) (by kernel_rfl)
  have b : L2.Binds K fd ["value"] [] := F.bindsN fun _ _ _ _ _ _ us hl => match us, hl with | [_], _ => by kernel_rfl
  exact ⟨_, fd, _, _, _, _, _, N_is_integer, _, F, He.glo_ok KX G (c.fact 2 (f := .glo "is_integer") (by kernel_rfl)), b, by kernel_rfl⟩
theorem ft_is_between (KX : K.In h) (G : h.Ns mainGlobals mg) (c : He.SaysD faD fnD K) : FnTab K mg cp "is_between" F_is_between := by
  obtain ⟨fd, F⟩ := c.def_ 3 (d := d_is_between) (by kernel_rfl)
  have b : L2.Binds K fd ["value", "low", "high"] [] := F.bindsN fun _ _ _ _ _ _ us hl => match us, hl with | [_, _, _], _ => by kernel_rfl
  exact ⟨_, fd, _, _, _, _, _, N_is_between, _, F, He.glo_ok KX G (c.fact 3 (f := .glo "is_between") (by kernel_rfl)), b, by kernel_rfl⟩
theorem ft_is_sequence (KX : K.In h) (G : h.Ns mainGlobals mg) (c : He.SaysD faD fnD K) : FnTab K mg cp "is_sequence" F_is_sequence := by
  obtain ⟨fd, F⟩ := c.def_ 4 (d := d_is_sequence) (by kernel_rfl)
  have b : L2.Binds K fd ["value", "least", "most"] [] := F.bindsN fun _ _ _ _ _ _ us hl => match us, hl with | [_, _, _], _ => by kernel_rfl
  exact ⟨_, fd, _, _, _, _, _, N_is_sequence, _, F, He.glo_ok KX G (c.fact 4 (f := .glo "is_sequence") (by kernel_rfl)), b, by kernel_rfl⟩
theorem ft_all_orders (KX : K.In h) (G : h.Ns mainGlobals mg) (c : He.SaysD faD fnD K) : FnTab K mg cp "all_orders" F_all_orders := by
  obtain ⟨fd, F⟩ := c.def_ 5 (d := d_all_orders) (by kernel_rfl)
  have b : L2.Binds K fd ["count"] [] := F.bindsN fun _ _ _ _ _ _ us hl => match us, hl with | [_], _ => by kernel_rfl
  exact ⟨_, fd, _, _, _, _, _, N_all_orders, _, F, He.glo_ok KX G (c.fact 5 (f := .glo "all_orders") (by kernel_rfl)), b, by kernel_rfl⟩
theorem ft_is_ship (KX : K.In h) (G : h.Ns mainGlobals mg) (c : He.SaysD faD fnD K) : FnTab K mg cp "is_ship" F_is_ship := by
  obtain ⟨fd, F⟩ := c.def_ 6 (d := d_is_ship) (by kernel_rfl)
  have b : L2.Binds K fd ["value"] [] := F.bindsN fun _ _ _ _ _ _ us hl => match us, hl with | [_], _ => by kernel_rfl
  exact ⟨_, fd, _, _, _, _, _, N_is_ship, _, F, He.glo_ok KX G (c.fact 10 (f := .glo "is_ship") (by kernel_rfl)), b, by kernel_rfl⟩
theorem ft_are_ships (KX : K.In h) (G : h.Ns mainGlobals mg) (c : He.SaysD faD fnD K) : FnTab K mg cp "are_ships" F_are_ships := by
  obtain ⟨fd, F⟩ := c.def_ 7 (d := d_are_ships) (by kernel_rfl)
  have b : L2.Binds K fd ["value"] [] := F.bindsN fun _ _ _ _ _ _ us hl => match us, hl with | [_], _ => by kernel_rfl
  exact ⟨_, fd, _, _, _, _, _, N_are_ships, _, F, He.glo_ok KX G (c.fact 11 (f := .glo "are_ships") (by kernel_rfl)), b, by kernel_rfl⟩
theorem ft_require_quay (KX : K.In h) (G : h.Ns mainGlobals mg) (c : He.SaysD faD fnD K) : FnTab K mg cp "require_quay" F_require_quay := by
  obtain ⟨fd, F⟩ := c.def_ 8 (d := d_require_quay) (by kernel_rfl)
  have b : L2.Binds K fd ["ships", "berths"] [] := F.bindsN fun _ _ _ _ _ _ us hl => match us, hl with | [_, _], _ => by kernel_rfl
  exact ⟨_, fd, _, _, _, _, _, N_require_quay, _, F, He.glo_ok KX G (c.fact 12 (f := .glo "require_quay") (by kernel_rfl)), b, by kernel_rfl⟩
theorem ft_turn_of (KX : K.In h) (G : h.Ns mainGlobals mg) (c : He.SaysD faD fnD K) : FnTab K mg cp "turn_of" F_turn_of := by
  obtain ⟨fd, F⟩ := c.def_ 9 (d := d_turn_of) (by kernel_rfl)
  have b : L2.Binds K fd ["ships"] [] := F.bindsN fun _ _ _ _ _ _ us hl => match us, hl with | [_], _ => by kernel_rfl
  exact ⟨_, fd, _, _, _, _, _, N_turn_of, _, F, He.glo_ok KX G (c.fact 13 (f := .glo "turn_of") (by kernel_rfl)), b, by kernel_rfl⟩
theorem ft_hours_begun (KX : K.In h) (G : h.Ns mainGlobals mg) (c : He.SaysD faD fnD K) : FnTab K mg cp "hours_begun" F_hours_begun := by
  obtain ⟨fd, F⟩ := c.def_ 10 (d := d_hours_begun) (by kernel_rfl)
  have b : L2.Binds K fd ["ships", "order", "berths"] [] := F.bindsN fun _ _ _ _ _ _ us hl => match us, hl with | [_, _, _], _ => by kernel_rfl
  exact ⟨_, fd, _, _, _, _, _, N_hours_begun, _, F, He.glo_ok KX G (c.fact 14 (f := .glo "hours_begun") (by kernel_rfl)), b, by kernel_rfl⟩
theorem ft_hours_waited (KX : K.In h) (G : h.Ns mainGlobals mg) (c : He.SaysD faD fnD K) : FnTab K mg cp "hours_waited" F_hours_waited := by
  obtain ⟨fd, F⟩ := c.def_ 11 (d := d_hours_waited) (by kernel_rfl)
  have b : L2.Binds K fd ["ships", "begun"] [] := F.bindsN fun _ _ _ _ _ _ us hl => match us, hl with | [_, _], _ => by kernel_rfl
  exact ⟨_, fd, _, _, _, _, _, N_hours_waited, _, F, He.glo_ok KX G (c.fact 15 (f := .glo "hours_waited") (by kernel_rfl)), b, by kernel_rfl⟩
theorem ft_in_turn (KX : K.In h) (G : h.Ns mainGlobals mg) (c : He.SaysD faD fnD K) : FnTab K mg cp "in_turn" F_in_turn := by
  obtain ⟨fd, F⟩ := c.def_ 12 (d := d_in_turn) (by kernel_rfl)
  have b : L2.Binds K fd ["ships", "berths"] [] := F.bindsN fun _ _ _ _ _ _ us hl => match us, hl with | [_, _], _ => by kernel_rfl
  exact ⟨_, fd, _, _, _, _, _, N_in_turn, _, F, He.glo_ok KX G (c.fact 16 (f := .glo "in_turn") (by kernel_rfl)), b, by kernel_rfl⟩
theorem ft_waiting (KX : K.In h) (G : h.Ns mainGlobals mg) (c : He.SaysD faD fnD K) : FnTab K mg cp "waiting" F_waiting := by
  obtain ⟨fd, F⟩ := c.def_ 13 (d := d_waiting) (by kernel_rfl)
  have b : L2.Binds K fd ["ships", "berths"] [] := F.bindsN fun _ _ _ _ _ _ us hl => match us, hl with | [_, _], _ => by kernel_rfl
  exact ⟨_, fd, _, _, _, _, _, N_waiting, _, F, He.glo_ok KX G (c.fact 17 (f := .glo "waiting") (by kernel_rfl)), b, by kernel_rfl⟩
theorem ft_least_waiting (KX : K.In h) (G : h.Ns mainGlobals mg) (c : He.SaysD faD fnD K) : FnTab K mg cp "least_waiting" F_least_waiting := by
  obtain ⟨fd, F⟩ := c.def_ 14 (d := d_least_waiting) (by kernel_rfl)
  have b : L2.Binds K fd ["ships"] [] := F.bindsN fun _ _ _ _ _ _ us hl => match us, hl with | [_], _ => by kernel_rfl
  exact ⟨_, fd, _, _, _, _, _, N_least_waiting, _, F, He.glo_ok KX G (c.fact 18 (f := .glo "least_waiting") (by kernel_rfl)), b, by kernel_rfl⟩
theorem ft_last_free (KX : K.In h) (G : h.Ns mainGlobals mg) (c : He.SaysD faD fnD K) : FnTab K mg cp "last_free" F_last_free := by
  obtain ⟨fd, F⟩ := c.def_ 15 (d := d_last_free) (by kernel_rfl)
  have b : L2.Binds K fd ["ships", "berths"] [] := F.bindsN fun _ _ _ _ _ _ us hl => match us, hl with | [_, _], _ => by kernel_rfl
  exact ⟨_, fd, _, _, _, _, _, N_last_free, _, F, He.glo_ok KX G (c.fact 19 (f := .glo "last_free") (by kernel_rfl)), b, by kernel_rfl⟩
theorem ft__law_numbers (KX : K.In h) (G : h.Ns mainGlobals mg) (c : He.SaysD faD fnD K) : FnTab K mg cp "_law_numbers" F__law_numbers := by
  obtain ⟨fd, F⟩ := c.def_ 16 (d := d__law_numbers) (by kernel_rfl)
  have b : L2.Binds K fd ["script"] [] := F.bindsN fun _ _ _ _ _ _ us hl => match us, hl with | [_], _ => by kernel_rfl
  exact ⟨_, fd, _, _, _, _, _, N__law_numbers, _, F, He.glo_ok KX G (c.fact 20 (f := .glo "_law_numbers") (by kernel_rfl)), b, by kernel_rfl⟩
theorem ft__law_draw (KX : K.In h) (G : h.Ns mainGlobals mg) (c : He.SaysD faD fnD K) : FnTab K mg cp "_law_draw" F__law_draw := by
  obtain ⟨fd, F⟩ := c.def_ 17 (d := d__law_draw) (by kernel_rfl)
  have b : L2.Binds K fd ["row", "at", "limit"] [] := F.bindsN fun _ _ _ _ _ _ us hl => match us, hl with | [_, _, _], _ => by kernel_rfl
  exact ⟨_, fd, _, _, _, _, _, N__law_draw, _, F, He.glo_ok KX G (c.fact 21 (f := .glo "_law_draw") (by kernel_rfl)), b, by kernel_rfl⟩
theorem ft__law_take (KX : K.In h) (G : h.Ns mainGlobals mg) (c : He.SaysD faD fnD K) : FnTab K mg cp "_law_take" F__law_take := by
  obtain ⟨fd, F⟩ := c.def_ 18 (d := d__law_take) (by kernel_rfl)
  have b : L2.Binds K fd ["row", "spot", "limit"] [] := F.bindsN fun _ _ _ _ _ _ us hl => match us, hl with | [_, _, _], _ => by kernel_rfl
  exact ⟨_, fd, _, _, _, _, _, N__law_take, _, F, He.glo_ok KX G (c.fact 22 (f := .glo "_law_take") (by kernel_rfl)), b, by kernel_rfl⟩
theorem ft__law_perms (KX : K.In h) (G : h.Ns mainGlobals mg) (c : He.SaysD faD fnD K) : FnTab K mg cp "_law_perms" F__law_perms := by
  obtain ⟨fd, F⟩ := c.def_ 19 (d := d__law_perms) (by kernel_rfl)
  have b : L2.Binds K fd ["many"] [] := F.bindsN fun _ _ _ _ _ _ us hl => match us, hl with | [_], _ => by kernel_rfl
  exact ⟨_, fd, _, _, _, _, _, N__law_perms, _, F, He.glo_ok KX G (c.fact 23 (f := .glo "_law_perms") (by kernel_rfl)), b, by kernel_rfl⟩
theorem ft_law (KX : K.In h) (G : h.Ns mainGlobals mg) (c : He.SaysD faD fnD K) : FnTab K mg cp "law" F_law := by
  obtain ⟨fd, F⟩ := c.def_ 20 (d := d_law) (by kernel_rfl)
  have b : L2.Binds K fd ["script"] [] := F.bindsN fun _ _ _ _ _ _ us hl => match us, hl with | [_], _ => by kernel_rfl
  exact ⟨_, fd, _, _, _, _, _, N_law, _, F, He.glo_ok KX G (c.fact 24 (f := .glo "law") (by kernel_rfl)), b, by kernel_rfl⟩
theorem tab_ok (KX : K.In h) (G : h.Ns mainGlobals mg) (c : He.SaysD faD fnD K) : ∀ x f fn, cp.fn x = some f → cp.T f = some fn → FnTab K mg cp x fn := by
  intro x f fn h1 h2
  have m : (x, f) ∈ nmL := mem_lookup2 h1
  simp only [nmL, List.mem_cons, List.not_mem_nil, or_false, Prod.mk.injEq] at m
  have h2 : fns[f]? = some fn := h2
  rcases m with ⟨rfl, rfl⟩ | ⟨rfl, rfl⟩ | ⟨rfl, rfl⟩ | ⟨rfl, rfl⟩ | ⟨rfl, rfl⟩ | ⟨rfl, rfl⟩ | ⟨rfl, rfl⟩ | ⟨rfl, rfl⟩ | ⟨rfl, rfl⟩ | ⟨rfl, rfl⟩ | ⟨rfl, rfl⟩ | ⟨rfl, rfl⟩ | ⟨rfl, rfl⟩ | ⟨rfl, rfl⟩ | ⟨rfl, rfl⟩ | ⟨rfl, rfl⟩ | ⟨rfl, rfl⟩ | ⟨rfl, rfl⟩ | ⟨rfl, rfl⟩ | ⟨rfl, rfl⟩ | ⟨rfl, rfl⟩
  · cases (show F_plain = fn from Option.some.inj h2)
    exact ft_plain KX G c
  · cases (show F_require = fn from Option.some.inj h2)
    exact ft_require KX G c
  · cases (show F_is_integer = fn from Option.some.inj h2)
    exact ft_is_integer KX G c
  · cases (show F_is_between = fn from Option.some.inj h2)
    exact ft_is_between KX G c
  · cases (show F_is_sequence = fn from Option.some.inj h2)
    exact ft_is_sequence KX G c
  · cases (show F_all_orders = fn from Option.some.inj h2)
    exact ft_all_orders KX G c
  · cases (show F_is_ship = fn from Option.some.inj h2)
    exact ft_is_ship KX G c
  · cases (show F_are_ships = fn from Option.some.inj h2)
    exact ft_are_ships KX G c
  · cases (show F_require_quay = fn from Option.some.inj h2)
    exact ft_require_quay KX G c
  · cases (show F_turn_of = fn from Option.some.inj h2)
    exact ft_turn_of KX G c
  · cases (show F_hours_begun = fn from Option.some.inj h2)
    exact ft_hours_begun KX G c
  · cases (show F_hours_waited = fn from Option.some.inj h2)
    exact ft_hours_waited KX G c
  · cases (show F_in_turn = fn from Option.some.inj h2)
    exact ft_in_turn KX G c
  · cases (show F_waiting = fn from Option.some.inj h2)
    exact ft_waiting KX G c
  · cases (show F_least_waiting = fn from Option.some.inj h2)
    exact ft_least_waiting KX G c
  · cases (show F_last_free = fn from Option.some.inj h2)
    exact ft_last_free KX G c
  · cases (show F__law_numbers = fn from Option.some.inj h2)
    exact ft__law_numbers KX G c
  · cases (show F__law_draw = fn from Option.some.inj h2)
    exact ft__law_draw KX G c
  · cases (show F__law_take = fn from Option.some.inj h2)
    exact ft__law_take KX G c
  · cases (show F__law_perms = fn from Option.some.inj h2)
    exact ft__law_perms KX G c
  · cases (show F_law = fn from Option.some.inj h2)
    exact ft_law KX G c
theorem blt_ok (KX : K.In h) (G : h.Ns mainGlobals mg) (c : He.SaysD faD fnD K) : ∀ x, cp.blt x = true → mg x = none := by
  intro x hx
  have m : x ∈ bltL := List.contains_iff_mem.mp hx
  have c1 := (He.ba (show ((faD.all fun f => f.ok K) && fnD.all fun d => d.ok K) = true from congrArg (fun z : He.AlD => z.1) c)).1
  exact He.free_ok KX G (List.all_eq_true.mp c1 (.free x) (List.mem_append_right _ (List.mem_map.mpr ⟨x, m, rfl⟩)))
theorem cst_ok (KX : K.In h) (G : h.Ns mainGlobals mg) (c : He.SaysD faD fnD K) : ∀ x d, cp.cst x = some d → ∃ v u, mg x = some u ∧ RelV v u ∧ (∀ (H : Hp) S, Rep K H S v d) ∧ ∀ ds, d ≠ .list ds := by
  intro x d hx
  obtain ⟨i, hi, rfl⟩ := Option.map_eq_some_iff.mp hx
  have m : (x, i) ∈ cstL := mem_lookup2 hi
  have c1 := (He.ba (show ((faD.all fun f => f.ok K) && fnD.all fun d => d.ok K) = true from congrArg (fun z : He.AlD => z.1) c)).1
  have m2 : (cstL.all fun p => faD.any fun f => match f with | .int y j => decide (y = p.1) && decide (j = p.2) | _ => false) = true := by kernel_rfl
  obtain ⟨f, hf, e⟩ := List.any_eq_true.mp (List.all_eq_true.mp m2 _ m)
  cases f <;> simp only [Bool.false_eq_true, Bool.and_eq_true, decide_eq_true_eq] at e
  obtain ⟨rfl, rfl⟩ := e
  obtain ⟨t, ht⟩ := He.int_ok KX G (List.all_eq_true.mp c1 _ hf)
  exact ⟨.int _, _, ht, ⟨t, rfl⟩, fun _ _ => .int _, fun _ e => nomatch e⟩
theorem gcd_ok (KX : K.In h) (G : h.Ns mainGlobals mg) (c : He.SaysD faD fnD K) : ∀ x, cp.gcds x = true → mg x = some (.builtin "math.gcd") := by
  intro x hx
  exact absurd hx (by simp [cp, gcdL])
theorem lawF (c : He.SaysD faD fnD K) : ∃ fd, FunD K "law" "law" (defArgs st_law) (defBody st_law) (defScope st_law) [] [] (He.ga K "law") fd ∧ (∀ (s : Shared) (u : Value), BindsTo s fd ⟨[u], []⟩ [("script", u)]) := by
  obtain ⟨fd, F⟩ := c.def_ 20 (d := d_law) (by kernel_rfl)
  exact ⟨fd, F, fun s u => FunD.bindsA (ps := ["script"]) F (fun _ _ _ _ _ _ us hl => match us, hl with | [_], _ => by kernel_rfl) s [u] rfl⟩
end
theorem run (w : World) : HandSHeadRun.RunEq Rw (PySem.W.view Rw.prog [32]) hkD obD 2000 names w := by
  intro os
  kernel_rfl
end Cw
open PySem PySem.W PySem.Calls PyProof.Rows
theorem law_holds (plain : ∀ ns : List Int, ns.length ≤ 63 → Cw.callF Cw.tab 60 Cw.f_law [.list (ns.map .int)] = .ok (.bool true) []) : PySem.Challenge.rw_cornwright_k66_all_small_ships.Holds := by
  w_on; o_law
  refine HandSHeadRun.head_any (r := OpenLaw.row PySem.Challenge.rw_cornwright_k66_all_small_ships) (q := view (OpenLaw.row PySem.Challenge.rw_cornwright_k66_all_small_ships).prog [32]) (H := Cw.hkD) (ob := Cw.obD) (M := 2000) (loose := Cw.names) (d := HandSHeadRun.topDef (OpenLaw.row PySem.Challenge.rw_cornwright_k66_all_small_ships).prog 32) (kwd := []) Cw.ob_eq
    (by kernel_rfl) (fun s => by kernel_rfl) Cw.run (by kernel_rfl) (by kernel_rfl) (by kernel_rfl) (by rfl) (by first | assumption | decide +kernel) (by decide +kernel) ⟨rfl, rfl, rfl, rfl, rfl, by decide +kernel⟩ ?hw ?hc
  case hw => w_witness2
  case hc =>
    refine L2.walk_ofE (l := PySem.Challenge.rw_cornwright_k66_all_small_ships) (n := 63) (k := 60) (x := "script") (CX := Cw.CXe) rfl (by decide) (by kernel_rfl) ⟨rfl, by decide, by decide⟩ ?F Cw.cxe_no
    intro w mg fa h Y G hmg0
    obtain ⟨K, KX, c⟩ := Y
    have hmg : mg ("law" : PySem.Str) = some (.ref fa) := by
      have e : (HandSHeadRun.topDef (OpenLaw.row PySem.Challenge.rw_cornwright_k66_all_small_ships).prog 32).name = ("law" : PySem.Str) := by kernel_rfl
      rw [← e]
      exact hmg0
    obtain ⟨fd, F, hb⟩ := Cw.lawF c
    exact Cw.law_end (P := Cw.cp) (N := Cw.N_law) (n := 59) (fn := Cw.F_law) (f := Cw.f_law) KX hmg F (He.glo_ok KX G (c.fact 24 (f := .glo "law") (by kernel_rfl))) hb (by kernel_rfl) (by rfl) (by rfl) (by rfl) (by decide) plain (Cw.tab_ok KX G c) (Cw.blt_ok KX G c) (Cw.cst_ok KX G c) (Cw.gcd_ok KX G c)
end

section
namespace Cw.J
open PySem
abbrev eI : Int → D := .int
abbrev eB : Bool → D := .bool
def eU : Unit → D := fun _ => .none
def eL {α : Type} (e : α → D) : List α → D := fun xs => .list (xs.map e)
def eT {α : Type} (e : α → D) : List α → D := fun xs => .tuple (xs.map e)
def eO {α : Type} (e : α → D) : Option α → D := fun o => match o with
  | none => .none
  | some x => e x
def eP2 {α β : Type} (e1 : α → D) (e2 : β → D) : α × β → D := fun p => .tuple [e1 p.1, e2 p.2]
def eP3 {α β γ : Type} (e1 : α → D) (e2 : β → D) (e3 : γ → D) : α × β × γ → D := fun p => .tuple [e1 p.1, e2 p.2.1, e3 p.2.2]
def ImmE {α : Type} (e : α → D) : Prop := ∀ x, imm (e x) = true
theorem im_I : ImmE eI := fun _ => rfl
theorem im_B : ImmE eB := fun _ => rfl
theorem im_U : ImmE eU := fun _ => rfl
theorem im_O {α : Type} {e : α → D} (h : ImmE e) : ImmE (eO e) := fun o => by cases o; · rfl
                                                                              · exact h _
theorem im_all {α : Type} {e : α → D} (h : ImmE e) : ∀ xs : List α, imm.immAll (xs.map e) = true
  | [] => rfl
  | x :: xs => by simp [imm.immAll, h x, im_all h xs]
theorem im_T {α : Type} {e : α → D} (h : ImmE e) : ImmE (eT e) := fun xs => by show imm.immAll _ = true; exact im_all h xs
theorem im_P2 {α β : Type} {e1 : α → D} {e2 : β → D} (h1 : ImmE e1) (h2 : ImmE e2) : ImmE (eP2 e1 e2) := fun p => by
  show imm.immAll [e1 p.1, e2 p.2] = true
  simp [imm.immAll, h1 p.1, h2 p.2]
theorem im_P3 {α β γ : Type} {e1 : α → D} {e2 : β → D} {e3 : γ → D} (h1 : ImmE e1) (h2 : ImmE e2) (h3 : ImmE e3) : ImmE (eP3 e1 e2 e3) := fun p => by
  show imm.immAll [e1 p.1, e2 p.2.1, e3 p.2.2] = true
  simp [imm.immAll, h1 p.1, h2 p.2.1, h3 p.2.2]
theorem sh_L {α : Type} {e : α → D} (h : ImmE e) (xs : List α) : shal (eL e xs) = true := by
  show (xs.map e).all imm = true
  rw [List.all_eq_true]
  intro d hd
  obtain ⟨x, _, rfl⟩ := List.mem_map.mp hd
  exact h x
section
variable {T : Nat → Option Fn} {c : Nat → List D → OutC} {r r' r1 : Env} {ss a b : List MS} {s : MS} {P : Flow → Env → Prop} {d x : D} {k : Bool} {kk : Nat} {md : Md} {m : ME}
def Run (T : Nat → Option Fn) (c : Nat → List D → OutC) (r : Env) (ss : List MS) (P : Flow → Env → Prop) : Prop := ∃ fl r', evSs T c ss r = .ok fl r' ∧ P fl r'
theorem run_nx (h : evS T c s r = .ok .nx r1) (hs : Run T c r1 ss P) : Run T c r (s :: ss) P := by
  obtain ⟨fl, r2, e, p⟩ := hs
  exact ⟨fl, r2, ss_nx h e, p⟩
theorem run_nil (h : P .nx r) : Run T c r [] P := ⟨.nx, r, rfl, h⟩
theorem run_ret (h : evS T c s r = .ok (.ret kk d) r') (hp : P (.ret kk d) r') : Run T c r (s :: ss) P := ⟨_, _, ss_ret h, hp⟩
theorem run_brk (hp : P .brk r) : Run T c r (.brk :: ss) P := ⟨.brk, r, rfl, hp⟩
theorem run_cnt (hp : P .cnt r) : Run T c r (.cnt :: ss) P := ⟨.cnt, r, rfl, hp⟩
theorem evSs_app : ∀ (a ss : List MS) (r : Env), evSs T c (a ++ ss) r = (evSs T c a r).bind fun o r1 => match o with
    | .nx => evSs T c ss r1
    | o => .ok o r1
  | [], ss, r => rfl
  | s :: a, ss, r => by
    simp only [List.cons_append, evSs]
    cases h : evS T c s r with
    | ok fl r1 => cases fl <;> simp only [b_ok]; exact evSs_app a ss r1
    | exc x r1 => rfl
    | bad => rfl
theorem run_if (ht : evT T c md m r = .ok k r1) (ha : k = true → Run T c r1 (a ++ ss) P) (hb : k = false → Run T c r1 (b ++ ss) P) : Run T c r (.ife md m a b :: ss) P := by
  have key : ∀ q : List MS, Run T c r1 (q ++ ss) P → evS T c (.ife md m a b) r = evSs T c q r1 → Run T c r (.ife md m a b :: ss) P := by
    intro q hq e
    obtain ⟨fl, r2, e2, p⟩ := hq
    refine ⟨fl, r2, ?_, p⟩
    rw [evSs_app] at e2
    simp only [evSs, e]
    exact e2
  cases k with
  | true => exact key a (ha rfl) (by simp only [evS, ht, b_ok, if_true])
  | false => exact key b (hb rfl) (by simp only [evS, ht, b_ok, Bool.false_eq_true, if_false])
end
end Cw.J
namespace Cw.J
open PySem
/-- how a block ends -/
inductive Fl (σ ρ : Type) | nx (s : σ) | brk (s : σ) | ret (v : ρ)
def forO {α σ : Type} (g : α → σ → Option σ) : List α → σ → Option σ
  | [], s => some s
  | x :: xs, s => match g x s with
    | some s' => forO g xs s'
    | none => none
def forG {α σ ρ : Type} (g : α → σ → Option (Fl σ ρ)) : List α → σ → Option (Fl σ ρ)
  | [], s => some (.nx s)
  | x :: xs, s => match g x s with
    | some (.nx s') => forG g xs s'
    | some (.brk s') => some (.nx s')
    | some (.ret v) => some (.ret v)
    | none => none
def mapO {α β : Type} (g : α → Option β) : Nat → List α → Option (List β)
  | _, [] => some []
  | 0, _ :: _ => none
  | n + 1, x :: xs => match g x with
    | some y => (mapO g n xs).map (y :: ·)
    | none => none
section
variable {T : Nat → Option Fn} {c : Nat → List D → OutC}
theorem for_O {α σ ι : Type} {f : D → Env → Out Flow} {h : α → D} {enc : σ → ι → Env} {g : α → σ → Option σ} (hf : ∀ x s s' j, g x s = some s' → ∃ j', f (h x) (enc s j) = .ok .nx (enc s' j') ∨ f (h x) (enc s j) = .ok .cnt (enc s' j')) :
    ∀ (xs : List α) (s s' : σ) (j : ι), forO g xs s = some s' → ∃ j', loopF f (xs.map h) (enc s j) = .ok .nx (enc s' j')
  | [], s, s', j, e => by cases e; exact ⟨j, rfl⟩
  | x :: xs, s, s', j, e => by
    unfold forO at e
    cases hg : g x s with
    | none => rw [hg] at e; cases e
    | some s1 =>
      rw [hg] at e
      obtain ⟨j1, h1⟩ := hf x s s1 j hg
      obtain ⟨j2, h2⟩ := for_O hf xs s1 s' j1 e
      refine ⟨j2, ?_⟩
      rcases h1 with h1 | h1 <;> (simp only [List.map_cons, loopF, h1, b_ok]; exact h2)
/-- what a step of a loop does -/
def StepG {σ ρ ι : Type} (enc : σ → ι → Env) (er : Nat → ρ → D → Prop) (o : Out Flow) : Fl σ ρ → Prop
  | .nx s => ∃ j, o = .ok .nx (enc s j) ∨ o = .ok .cnt (enc s j)
  | .brk s => ∃ j, o = .ok .brk (enc s j)
  | .ret v => ∃ k d r, o = .ok (.ret k d) r ∧ er k v d
def EndG {σ ρ ι : Type} (enc : σ → ι → Env) (er : Nat → ρ → D → Prop) (o : Out Flow) : Fl σ ρ → Prop
  | .nx s => ∃ j, o = .ok .nx (enc s j)
  | .brk _ => False
  | .ret v => ∃ k d r, o = .ok (.ret k d) r ∧ er k v d
theorem for_G {α σ ρ ι : Type} {f : D → Env → Out Flow} {h : α → D} {enc : σ → ι → Env} {er : Nat → ρ → D → Prop} {g : α → σ → Option (Fl σ ρ)} (hf : ∀ x s s' j, g x s = some s' → StepG enc er (f (h x) (enc s j)) s') :
    ∀ (xs : List α) (s : σ) (s' : Fl σ ρ) (j : ι), forG g xs s = some s' → EndG enc er (loopF f (xs.map h) (enc s j)) s'
  | [], s, s', j, e => by cases e; exact ⟨j, rfl⟩
  | x :: xs, s, s', j, e => by
    unfold forG at e
    cases hg : g x s with
    | none => rw [hg] at e; cases e
    | some fl =>
      rw [hg] at e
      have q := hf x s fl j hg
      cases fl with
      | nx s1 =>
        obtain ⟨j1, h1⟩ := q
        have ih := for_G hf xs s1 s' j1 e
        rcases h1 with h1 | h1 <;> (simp only [List.map_cons, loopF, h1, b_ok]; exact ih)
      | brk s1 =>
        cases e
        obtain ⟨j1, h1⟩ := q
        exact ⟨j1, by simp only [List.map_cons, loopF, h1, b_ok]⟩
      | ret v =>
        cases e
        obtain ⟨k, d, r, h1, h2⟩ := q
        exact ⟨k, d, r, by simp only [List.map_cons, loopF, h1, b_ok], h2⟩
end
end Cw.J
namespace Cw.J
open PySem
def cmpN {α β : Type} (g : α → Option (Option β)) : List α → Option (List β)
  | [] => some []
  | x :: xs => match g x with
    | some (some y) => (cmpN g xs).map (y :: ·)
    | some none => cmpN g xs
    | none => none
def cmpO {α β : Type} (g : α → Option (Option β)) (n : Nat) (xs : List α) : Option (List β) := if xs.length ≤ n then cmpN g xs else none
section
variable {T : Nat → Option Fn} {c : Nat → List D → OutC} {r : Env} {x : D}
theorem cmpN_len {α β : Type} {g : α → Option (Option β)} : ∀ (xs : List α) (ys : List β), cmpN g xs = some ys → ys.length ≤ xs.length
  | [], ys, h => by cases h; simp
  | x :: xs, ys, h => by
    unfold cmpN at h
    cases hg : g x with
    | none => rw [hg] at h; cases h
    | some o =>
      rw [hg] at h
      cases o with
      | none => have := cmpN_len xs ys h; simp only [List.length_cons]; omega
      | some y =>
        simp only [Option.map_eq_some_iff] at h
        obtain ⟨zs, hz, rfl⟩ := h
        have := cmpN_len xs zs hz
        simp only [List.length_cons]; omega
theorem loopC_N {α β : Type} {f : D → Env → Out (Option D)} {w : Env} {h : α → D} {e : β → D} {g : α → Option (Option β)} (hf : ∀ n o, g n = some o → f (h n) w = .ok (o.map e) w) : ∀ (xs : List α) (acc : List D) (ys : List β), cmpN g xs = some ys → acc.length + ys.length ≤ LIM →
    loopC f (xs.map h) acc w = .ok (acc ++ ys.map e) w
  | [], acc, ys, hy, hl => by
    cases hy
    simp [loopC]
  | x :: xs, acc, ys, hy, hl => by
    unfold cmpN at hy
    cases hg : g x with
    | none => rw [hg] at hy; cases hy
    | some o =>
      rw [hg] at hy
      simp only [List.map_cons, loopC, hf x o hg, b_ok]
      cases o with
      | none =>
        simp only [Option.map_none]
        exact loopC_N hf xs acc ys hy hl
      | some y =>
        simp only [Option.map_some]
        simp only [Option.map_eq_some_iff] at hy
        obtain ⟨zs, hz, rfl⟩ := hy
        simp only [List.length_cons] at hl
        rw [if_pos (by omega), loopC_N hf xs (acc ++ [e y]) zs hz (by simp; omega)]
        simp
theorem loopC_O {α β : Type} {f : D → Env → Out (Option D)} {w : Env} {h : α → D} {e : β → D} {g : α → Option (Option β)} (hf : ∀ n o, g n = some o → f (h n) w = .ok (o.map e) w) (xs : List α) (ys : List β) (hy : cmpO g LIM xs = some ys) :
    loopC f (xs.map h) [] w = .ok (ys.map e) w := by
  unfold cmpO at hy
  split at hy
  · rename_i hl
    have := cmpN_len xs ys hy
    rw [loopC_N hf xs [] ys hy (by simp; omega)]
    simp
  · cases hy
/-- a test and an item of a comprehension -/
theorem ev_cmpO {α β : Type} {h : α → D} {e : β → D} {ns : List α} {ys : List β} {g : α → Option (Option β)} {elt it : ME} {cd : Option ME} {t : Tg} (hi : EvE T c r it x) (hx : itemsD x = some (ns.map h)) (hw : okW r (tgS t) = true)
    (hs : ∀ n o, g n = some o → ((match asgG t (h n) (wipeE r (tgS t)) with
        | none => .bad
        | some r2 => (evC T c cd r2).bind fun k r3 => if k then (evE T c elt r3).bind fun y r4 => .ok (some y) r4 else .ok none r3 : Out (Option D)).wiped (tgS t)) = .ok (o.map e) (wipeE r (tgS t)))
    (hu : unwipeE r (wipeE r (tgS t)) (tgS t) = r) (hy : cmpO g LIM ns = some ys) : EvE T c r (.comp elt t it cd) (eL e ys) := by
  refine ⟨?_⟩
  simp only [evE, hi.h, b_ok, hx, lift_some, hw, if_true]
  rw [loopC_O (h := h) (e := e) hs ns ys hy]
  simp only [noX_okk, b_ok, hu]
  rfl
end
end Cw.J
namespace Cw.J
open PySem
section
variable {T : Nat → Option Fn} {c : Nat → List D → OutC} {r : Env} {x : D}
theorem cmp_step {t : Tg} {cd : Option ME} {elt : ME} {d : D} {w r2 : Env} {vs : List Nat} {k : Bool} {o : Option D} (ha : asgG t d w = some r2) (hc : evC T c cd r2 = .ok k r2) (ht : k = true → ∃ y, o = some y ∧ EvE T c r2 elt y) (hf : k = false → o = none) (hw : wipeE r2 vs = w) :
    ((match asgG t d w with
        | none => .bad
        | some r2 => (evC T c cd r2).bind fun k r3 => if k then (evE T c elt r3).bind fun y r4 => .ok (some y) r4 else .ok none r3 : Out (Option D)).wiped vs) = .ok o w := by
  rw [ha]
  simp only [hc, b_ok]
  cases k with
  | true =>
    obtain ⟨y, rfl, he⟩ := ht rfl
    simp only [if_true, he.h, b_ok, Out.wiped, hw]
  | false =>
    obtain rfl := hf rfl
    simp only [Bool.false_eq_true, if_false, Out.wiped, b_ok, hw]
theorem bs {α β : Type} {o : Option α} {f : α → Option β} {v : β} (h : o.bind f = some v) : ∃ x, o = some x ∧ f x = some v := by
  cases o with
  | none => cases h
  | some x => exact ⟨x, rfl, h⟩
theorem ev_andO {a b : ME} {k l : Bool} {o : Option Bool} (ha : EvE T c r a (.bool k)) (hb : k = true → ∀ l, o = some l → EvE T c r b (.bool l)) (h : (if k then o else some false) = some l) : EvE T c r (.and a b) (.bool l) := by
  cases k with
  | true =>
    rw [if_pos rfl] at h
    have := ev_and ha (l := l) fun _ => hb rfl l h
    exact this
  | false =>
    rw [if_neg Bool.false_ne_true] at h
    cases h
    have := ev_and ha (b := b) (l := false) fun q => by cases q
    exact this
theorem ev_orO {a b : ME} {k l : Bool} {o : Option Bool} (ha : EvE T c r a (.bool k)) (hb : k = false → ∀ l, o = some l → EvE T c r b (.bool l)) (h : (if k then some true else o) = some l) : EvE T c r (.or a b) (.bool l) := by
  cases k with
  | false =>
    rw [if_neg Bool.false_ne_true] at h
    have := ev_or ha (l := l) fun _ => hb rfl l h
    exact this
  | true =>
    rw [if_pos rfl] at h
    cases h
    have := ev_or ha (b := b) (l := true) fun q => by cases q
    exact this
theorem ev_iteO {α : Type} {e : α → D} {m a b : ME} {k : Bool} {o p : Option α} {v : α} (hc : EvE T c r m x) (ht : Trth x k) (ha : k = true → ∀ l, o = some l → EvE T c r a (e l)) (hb : k = false → ∀ l, p = some l → EvE T c r b (e l)) (h : (if k then o else p) = some v) : EvE T c r (.ite m a b) (e v) := by
  cases k with
  | true =>
    rw [if_pos rfl] at h
    have := ev_ite (b := b) hc ht (fun _ => ha rfl v h) (z := .none) (fun q => by cases q)
    exact this
  | false =>
    rw [if_neg Bool.false_ne_true] at h
    have := ev_ite (a := a) hc ht (y := .none) (fun q => by cases q) (fun _ => hb rfl v h)
    exact this
end
end Cw.J
end

section
namespace Cw.J
open PySem
section
variable {α β : Type} {e : α → D} {e2 : β → D}
theorem atI_map (xs : List α) (i : Int) : L2.atI (xs.map e) i = (L2.atI xs i).map e := by
  unfold L2.atI L2.ixN
  simp only [List.length_map]
  repeat' split
  all_goals first | rfl | simp
theorem ix_L {xs : List α} {i : Int} {v : α} (h : L2.atI xs i = some v) : IdxR (eL e xs) (.int i) (e v) := ⟨by
  show L2.atI (xs.map e) i = _
  rw [atI_map, h]; rfl⟩
theorem ix_T {xs : List α} {i : Int} {v : α} (h : L2.atI xs i = some v) : IdxR (eT e xs) (.int i) (e v) := ⟨by
  show L2.atI (xs.map e) i = _
  rw [atI_map, h]; rfl⟩
theorem len_L (xs : List α) : BiR .len [eL e xs] (.int xs.length) := ⟨by
  show (lenD (.list (xs.map e))).map PyData.int = _
  simp [lenD]⟩
theorem len_T (xs : List α) : BiR .len [eT e xs] (.int xs.length) := ⟨by
  show (lenD (.tuple (xs.map e))).map PyData.int = _
  simp [lenD]⟩
theorem tup_L (xs : List α) : BiR .tuple [eL e xs] (eT e xs) := ⟨rfl⟩
theorem tup_T (xs : List α) : BiR .tuple [eT e xs] (eT e xs) := ⟨rfl⟩
theorem lst_L (xs : List α) : BiR .list [eL e xs] (eL e xs) := ⟨rfl⟩
theorem lst_T (xs : List α) : BiR .list [eT e xs] (eL e xs) := ⟨rfl⟩
def appO (xs : List α) (v : α) : Option (List α) := if xs.length < LIM then some (xs ++ [v]) else none
theorem app_L {xs ys : List α} {v : α} (h : appO xs v = some ys) : appD (eL e xs) (e v) = some (eL e ys) := by
  unfold appO at h
  split at h
  · rename_i hl
    cases h
    show appD (.list (xs.map e)) (e v) = _
    simp only [appD, List.length_map, hl, if_true]
    simp [eL]
  · cases h
def setO (xs : List α) (i : Int) (v : α) : Option (List α) := (L2.ixN xs.length i).map fun j => xs.set j v
theorem set_L {xs ys : List α} {i : Int} {v : α} (h : setO xs i v = some ys) : setD (eL e xs) (.int i) (e v) = some (eL e ys) := by
  unfold setO at h
  show setD (.list (xs.map e)) (.int i) (e v) = _
  simp only [setD, List.length_map]
  simp only [Option.map_eq_some_iff] at h
  obtain ⟨j, hj, rfl⟩ := h
  rw [hj]
  simp [eL, List.map_set]
def catO (xs ys : List α) : Option (List α) := if xs.length + ys.length ≤ LIM then some (xs ++ ys) else none
theorem cat_L {xs ys zs : List α} (h : catO xs ys = some zs) : BinR .add (eL e xs) (eL e ys) (eL e zs) := by
  unfold catO at h
  split at h
  · rename_i hl
    cases h
    constructor
    show binD .add (.list (xs.map e)) (.list (ys.map e)) = _
    simp only [binD, List.length_map, hl, if_true]
    simp [eL]
  · cases h
theorem cat_T {xs ys zs : List α} (h : catO xs ys = some zs) : BinR .add (eT e xs) (eT e ys) (eT e zs) := by
  unfold catO at h
  split at h
  · rename_i hl
    cases h
    constructor
    show binD .add (.tuple (xs.map e)) (.tuple (ys.map e)) = _
    simp only [binD, List.length_map, hl, if_true]
    simp [eT]
  · cases h
end
end Cw.J
namespace Cw.J
open PySem
section
variable {α β : Type} {e : α → D} {e2 : β → D} {T : Nat → Option Fn} {c : Nat → List D → OutC} {r : Env} {x y : D}
def cutO (xs : List α) (lo hi : Option Int) : List α := (xs.drop (HT.sIx xs.length 0 lo)).take (HT.sIx xs.length xs.length hi - HT.sIx xs.length 0 lo)
theorem cut_map (xs : List α) (lo hi : Option Int) : cutL (xs.map e) lo hi = (cutO xs lo hi).map e := by
  simp [cutL, cutO, List.map_take, List.map_drop]
theorem slc_L (xs : List α) (lo hi : Option Int) : slcD (eL e xs) lo hi = some (eL e (cutO xs lo hi)) := by
  show some (PyData.list (cutL (xs.map e) lo hi)) = _
  rw [cut_map]; rfl
theorem slc_T (xs : List α) (lo hi : Option Int) : slcD (eT e xs) lo hi = some (eT e (cutO xs lo hi)) := by
  show some (PyData.tuple (cutL (xs.map e) lo hi)) = _
  rw [cut_map]; rfl
/-- a slice's border -/
structure EvB (T : Nat → Option Fn) (c : Nat → List D → OutC) (r : Env) (m : Option ME) (d : Option Int) : Prop where
  h : evO T c m r = .ok d r
theorem eb_none : EvB T c r none none := ⟨rfl⟩
theorem eb_some {m : ME} {i : Int} (h : EvE T c r m (.int i)) : EvB T c r (some m) (some i) := ⟨by simp only [evO, h.h, b_ok]⟩
theorem ev_slc {a : ME} {lo hi : Option ME} {l h : Option Int} {z : D} (ha : EvE T c r a x) (hl : EvB T c r lo l) (hh : EvB T c r hi h) (hz : slcD x l h = some z) : EvE T c r (.slc a lo hi) z := ⟨by simp only [evE, ha.h, b_ok, hl.h, hh.h, hz, lift_some]⟩
/-- a range of whole numbers -/
def rngL (a b : Int) : List Int := (List.range (b - a).toNat).map fun k => a + (k : Nat)
def inI (a : Int) : Bool := Nat.blt a.natAbs 4611686018427387904
theorem inI_b {a : Int} (h : inI a = true) : -(2 ^ 62) < a ∧ a < 2 ^ 62 := by
  unfold inI at h
  have h' : a.natAbs < 4611686018427387904 := Nat.blt_eq.mp h
  omega
def rngO (a b : Int) : Option (List Int) := if (inI a && inI b) = true then some (rngL a b) else none
theorem rng_I {a b : Int} {xs : List Int} (h : rngO a b = some xs) : rngD (.int a) (.int b) = some (eL eI xs) := by
  unfold rngO at h
  split at h
  · rename_i hc
    cases h
    rw [Bool.and_eq_true] at hc
    have h1 := inI_b hc.1
    have h2 := inI_b hc.2
    have h3 : -(2 ^ 62) ≤ a ∧ a < 2 ^ 62 ∧ -(2 ^ 62) ≤ b ∧ b < 2 ^ 62 := by omega
    simp only [rngD]
    rw [if_pos h3]
    simp only [rangeD, eL, rngL, List.map_map]
    rfl
  · cases h
theorem zip_L (xs : List α) (ys : List β) : zipD (eL e xs) (eL e2 ys) = some (eL (eP2 e e2) (xs.zip ys)) := by
  show some (PyData.list (((xs.map e).zip (ys.map e2)).map fun p => .tuple [p.1, p.2])) = some (PyData.list ((xs.zip ys).map (eP2 e e2)))
  rw [List.zip_map, List.map_map]; rfl
theorem zip_T (xs : List α) (ys : List β) : zipD (eT e xs) (eT e2 ys) = some (eL (eP2 e e2) (xs.zip ys)) := by
  show some (PyData.list (((xs.map e).zip (ys.map e2)).map fun p => .tuple [p.1, p.2])) = some (PyData.list ((xs.zip ys).map (eP2 e e2)))
  rw [List.zip_map, List.map_map]; rfl
theorem rev_L (xs : List α) : revD (eL e xs) = some (eL e xs.reverse) := by
  show some (PyData.list (xs.map e).reverse) = _
  rw [← List.map_reverse]; rfl
theorem rev_T (xs : List α) : revD (eT e xs) = some (eL e xs.reverse) := by
  show some (PyData.list (xs.map e).reverse) = _
  rw [← List.map_reverse]; rfl
end
end Cw.J
namespace Cw.J
open PySem
def smallI (a : Int) : Bool := Nat.blt a.natAbs 18446744073709551616
def mulO (a b : Int) : Option Int := if smallI a || smallI b || mulOk a b then some (a * b) else none
def fdivO (a b : Int) : Option Int := if (decide (0 < b) && smallI b) || divOk b then some (a / b) else none
def modO (a b : Int) : Option Int := if 0 < b then some (a % b) else none
theorem small_b {a : Int} (h : smallI a = true) : -(2 ^ 64) < a ∧ a < 2 ^ 64 := by
  unfold smallI at h
  have h' : a.natAbs < 18446744073709551616 := Nat.blt_eq.mp h
  omega
theorem b_mulO {a b v : Int} (h : mulO a b = some v) : BinR .mul (.int a) (.int b) (.int v) := by
  unfold mulO at h
  split at h
  · rename_i hc
    cases h
    refine b_mul a b ?_
    rw [Bool.or_eq_true, Bool.or_eq_true] at hc
    rcases hc with (hc | hc) | hc
    · exact decide_eq_true (.inl (small_b hc))
    · exact decide_eq_true (.inr (.inl (small_b hc)))
    · exact hc
  · cases h
theorem b_modO {a b v : Int} (h : modO a b = some v) : BinR .mod (.int a) (.int b) (.int v) := by
  unfold modO at h
  split at h
  · rename_i hc
    cases h
    exact b_mod a b hc
  · cases h
theorem b_fdivO {a b v : Int} (h : fdivO a b = some v) : BinR .fdiv (.int a) (.int b) (.int v) := by
  unfold fdivO at h
  split at h
  · rename_i hc
    cases h
    refine b_fdiv a b ?_
    rw [Bool.or_eq_true, Bool.and_eq_true, decide_eq_true_eq] at hc
    rcases hc with ⟨h0, h1⟩ | hc
    · refine decide_eq_true ⟨h0, ?_⟩
      have hs := small_b h1
      have : b.natAbs < 2 ^ 64 := by omega
      have := Nat.log2_lt (n := b.natAbs) (k := 64) (by omega) |>.mpr this
      omega
    · exact hc
  · cases h
end Cw.J
namespace Cw.J
open PySem
section
variable {α β : Type} {e : α → D} {e2 : β → D}
theorem zip_M (xs : List α) (ys : List β) : zipD (eT e xs) (eL e2 ys) = some (eL (eP2 e e2) (xs.zip ys)) := by
  show some (PyData.list (((xs.map e).zip (ys.map e2)).map fun p => .tuple [p.1, p.2])) = some (PyData.list ((xs.zip ys).map (eP2 e e2)))
  rw [List.zip_map, List.map_map]; rfl
end
end Cw.J
end

section
namespace Cw.J
open PySem
/-- a typed value that may be compared: plain, not deep, equal as data exactly if equal -/
structure Nice {α : Type} [BEq α] (e : α → D) (n : Nat) : Prop where
  plain : ∀ x, (e x).plain = true
  depth : ∀ x, (e x).depth ≤ n
  eqv : ∀ x y, PyData.eqv (e x) (e y) = (x == y)
theorem nc_I : Nice eI 1 := ⟨fun _ => rfl, fun _ => by simp [eI, PyData.depth], fun x y => by simp [eI, PyData.eqv]⟩
theorem nc_B : Nice eB 1 := ⟨fun _ => rfl, fun _ => by simp [eB, PyData.depth], fun x y => by cases x <;> cases y <;> rfl⟩

section
variable {α : Type} [BEq α] {e : α → D} {n : Nat}
theorem nc_plainAll (h : Nice e n) : ∀ xs : List α, PyData.plainAll (xs.map e) = true
  | [] => rfl
  | x :: xs => by simp [PyData.plainAll, h.plain x, nc_plainAll h xs]
theorem nc_depthAll (h : Nice e n) : ∀ xs : List α, PyData.depthAll (xs.map e) ≤ n
  | [] => by simp [PyData.depthAll]
  | x :: xs => by
    have h1 := h.depth x
    have h2 := nc_depthAll h xs
    simp only [List.map_cons, PyData.depthAll]
    omega
theorem nc_eqvAll (h : Nice e n) : ∀ xs ys : List α, PyData.eqvAll (xs.map e) (ys.map e) = (xs == ys)
  | [], [] => rfl
  | [], _ :: _ => rfl
  | _ :: _, [] => rfl
  | x :: xs, y :: ys => by
    simp only [List.map_cons, PyData.eqvAll, h.eqv, nc_eqvAll h xs ys]
    rfl
theorem nc_L (h : Nice e n) : Nice (eL e) (n + 1) := ⟨fun xs => nc_plainAll h xs, fun xs => by
  have := nc_depthAll h xs
  simp only [eL, PyData.depth]; omega, fun xs ys => by simp only [eL, PyData.eqv]; exact nc_eqvAll h xs ys⟩
theorem nc_T (h : Nice e n) : Nice (eT e) (n + 1) := ⟨fun xs => nc_plainAll h xs, fun xs => by
  have := nc_depthAll h xs
  simp only [eT, PyData.depth]; omega, fun xs ys => by simp only [eT, PyData.eqv]; exact nc_eqvAll h xs ys⟩
theorem r_eqN (h : Nice e n) (hn : n ≤ 60) (x y : α) : CmpR .eq (e x) (e y) (x == y) := ⟨by
  show eqD (e x) (e y) = _
  have hd := h.depth x
  simp only [eqD, h.plain, deepOk, Bool.true_and, h.eqv]
  rw [if_pos (decide_eq_true (by omega))]⟩
theorem r_neN (h : Nice e n) (hn : n ≤ 60) (x y : α) : CmpR .ne (e x) (e y) (!(x == y)) := ⟨by
  show (eqD (e x) (e y)).map (!·) = _
  have := (r_eqN h hn x y).h
  rw [show eqD (e x) (e y) = some (x == y) from this]; rfl⟩
end
end Cw.J
namespace Cw.J
open PySem
section
variable {α β : Type} [BEq α] [BEq β] {e : α → D} {e2 : β → D} {n n2 : Nat}
theorem nc_any (h : Nice e n) (x : α) : ∀ xs : List α, ((xs.map e).any fun y => PyData.eqv y (e x)) = xs.any (fun y => y == x)
  | [] => rfl
  | y :: xs => by simp only [List.map_cons, List.any_cons, h.eqv, nc_any h x xs]
theorem r_inL (h : Nice e n) (hn : n ≤ 60) (x : α) (xs : List α) : CmpR .inn (e x) (eL e xs) (xs.any fun y => y == x) := ⟨by
  have hd := h.depth x
  show inD (e x) (.list (xs.map e)) = _
  simp only [inD, nc_plainAll h, h.plain, deepOk, Bool.true_and, nc_any h]
  rw [if_pos (decide_eq_true (by omega))]⟩
theorem r_inT (h : Nice e n) (hn : n ≤ 60) (x : α) (xs : List α) : CmpR .inn (e x) (eT e xs) (xs.any fun y => y == x) := ⟨by
  have hd := h.depth x
  show inD (e x) (.tuple (xs.map e)) = _
  simp only [inD, nc_plainAll h, h.plain, deepOk, Bool.true_and, nc_any h]
  rw [if_pos (decide_eq_true (by omega))]⟩
theorem nc_P2 (h : Nice e n) (h2 : Nice e2 n2) : Nice (eP2 e e2) (max n n2 + 1) := ⟨fun p => by simp [eP2, PyData.plain, PyData.plainAll, h.plain, h2.plain], fun p => by
  have a := h.depth p.1
  have b := h2.depth p.2
  simp only [eP2, PyData.depth, PyData.depthAll]; omega, fun p q => by
  simp only [eP2, PyData.eqv, PyData.eqvAll, h.eqv, h2.eqv, Bool.and_true]; rfl⟩
end
end Cw.J
end

section
namespace Cw.J
open PySem PySem.W PyProof.Rows
/-- a typed value with an order -/
structure Ordd {α : Type} [BEq α] (e : α → D) (n : Nat) (lt : α → α → Bool) : Prop extends Nice e n where
  alike : ∀ x y, PySem.W.alike (e x) (e y) = true
  non : ∀ x, isNon (e x) = false
  lt : ∀ x y, dataLt (e x) (e y) = lt x y
theorem or_I : Ordd eI 1 (fun a b => decide (a < b)) := { nc_I with alike := fun a b => by simp only [eI, PySem.W.alike], non := fun _ => rfl, lt := fun a b => dataLt_int a b }
section
variable {α β : Type} [BEq α] [BEq β] {e : α → D} {e2 : β → D} {n n2 : Nat} {lt : α → α → Bool} {lt2 : β → β → Bool}
theorem r_ltN (h : Ordd e n lt) (hn : n ≤ 60) (x y : α) : CmpR .lt (e x) (e y) (lt x y) := ⟨by
  show ltD (e x) (e y) = _
  have hd := h.depth x
  simp only [ltD, h.alike, h.non, deepOk, Bool.true_and, Bool.not_false, h.lt]
  rw [if_pos (decide_eq_true (by omega))]⟩
theorem r_gtN (h : Ordd e n lt) (hn : n ≤ 60) (x y : α) : CmpR .gt (e x) (e y) (lt y x) := ⟨(r_ltN h hn y x).h⟩
theorem r_leN (h : Ordd e n lt) (hn : n ≤ 60) (x y : α) : CmpR .le (e x) (e y) (!lt y x) := ⟨by
  show (ltD (e y) (e x)).map (!·) = _
  rw [show ltD (e y) (e x) = some (lt y x) from (r_ltN h hn y x).h]; rfl⟩
theorem r_geN (h : Ordd e n lt) (hn : n ≤ 60) (x y : α) : CmpR .ge (e x) (e y) (!lt x y) := ⟨by
  show (ltD (e x) (e y)).map (!·) = _
  rw [show ltD (e x) (e y) = some (lt x y) from (r_ltN h hn x y).h]; rfl⟩
end
end Cw.J
namespace Cw.J
open PySem PySem.W PyProof.Rows
section
variable {α β : Type} [BEq α] [BEq β] {e : α → D} {e2 : β → D} {n n2 : Nat} {lt : α → α → Bool} {lt2 : β → β → Bool}
/-- the first difference decides -/
def ltL (lt : α → α → Bool) : List α → List α → Bool
  | [], [] => false
  | [], _ :: _ => true
  | _ :: _, [] => false
  | x :: xs, y :: ys => if x == y then ltL lt xs ys else lt x y
theorem or_alikeAll (h : Ordd e n lt) : ∀ xs ys : List α, alikeAll (xs.map e) (ys.map e) = true
  | [], _ => by rw [List.map_nil, alikeAll]
  | _ :: _, [] => by rw [List.map_nil, List.map_cons, alikeAll]
  | x :: xs, y :: ys => by
    rw [List.map_cons, List.map_cons, alikeAll, h.alike x y, or_alikeAll h xs ys]
    rfl
theorem or_lexAll (h : Ordd e n lt) : ∀ xs ys : List α, PyProof.Rows.lexLt itemOrd (keyToksAll (xs.map e)) (keyToksAll (ys.map e)) = ltL lt xs ys
  | [], [] => lex_irrefl _
  | [], y :: ys => by
    rw [List.map_nil, List.map_cons, toks_all_cons]
    simp only [keyToksAll]
    rw [lex_diff (O := itemOrd) (by simp)]
    rfl
  | x :: xs, [] => by
    rw [List.map_nil, List.map_cons, toks_all_cons]
    simp only [keyToksAll]
    rw [lex_diff (O := itemOrd) (by simp)]
    rfl
  | x :: xs, y :: ys => by
    rw [List.map_cons, List.map_cons, ltL]
    by_cases q : (x == y) = true
    · rw [if_pos q, dataLt_all_yes (h.alike x y) (by rw [h.eqv]; exact q), or_lexAll h xs ys]
    · rw [if_neg q, dataLt_all_no (h.alike x y) (by rw [h.eqv]; simpa using q)]
      exact h.lt x y
theorem or_L (h : Ordd e n lt) : Ordd (eL e) (n + 1) (ltL lt) := { nc_L h.toNice with
  alike := fun xs ys => by show PySem.W.alike (.list _) (.list _) = true; simp only [PySem.W.alike]; exact or_alikeAll h xs ys
  non := fun _ => rfl
  lt := fun xs ys => (dataLt_list _ _).trans (or_lexAll h xs ys) }
theorem or_T (h : Ordd e n lt) : Ordd (eT e) (n + 1) (ltL lt) := { nc_T h.toNice with
  alike := fun xs ys => by show PySem.W.alike (.tuple _) (.tuple _) = true; simp only [PySem.W.alike]; exact or_alikeAll h xs ys
  non := fun _ => rfl
  lt := fun xs ys => (dataLt_tuple _ _).trans (or_lexAll h xs ys) }
end
end Cw.J
end

section
namespace Cw.J
open PySem
inductive Kd | V | O | M | N | J | X
  deriving DecidableEq
structure K where
  k : Kd
  α : Type
  e : α → D
abbrev kV {α : Type} (e : α → D) : K := ⟨.V, α, e⟩
abbrev kO {α : Type} (e : α → D) : K := ⟨.O, α, e⟩
abbrev kM {α : Type} (e : α → D) : K := ⟨.M, α, e⟩
abbrev kN : K := ⟨.N, Unit, fun _ => .none⟩
abbrev kJ : K := ⟨.J, Unit, fun _ => .none⟩
abbrev kX : K := ⟨.X, Unit, fun _ => .none⟩
def relS (k : K) (x : k.α) (s : Option Slot) : Prop := match k.k with
  | .V => s = some (.val (k.e x))
  | .O => s = some (.own 1 (k.e x))
  | .M => s = some (.mut (k.e x))
  | .N => s = some .non
  | .J => s = some .non ∨ ∃ d, s = some (.val d)
  | .X => s = some .non ∨ (∃ d, s = some (.val d)) ∨ ∃ d, s = some (.own 1 d) ∧ shal d = true
@[reducible] def HL : List K → Type
  | [] => Unit
  | k :: ks => k.α × HL ks
def RelF : (Γ : List K) → Nat → HL Γ → Env → Prop
  | [], n, _, r => r.length = n
  | k :: ks, n, γ, r => relS k γ.1 (r[n]?) ∧ RelF ks (n + 1) γ.2 r
abbrev Rel (Γ : List K) (γ : HL Γ) (r : Env) : Prop := RelF Γ 0 γ r
def getK : List K → Nat → K
  | [], _ => kN
  | k :: _, 0 => k
  | _ :: ks, i + 1 => getK ks i
def getH : (Γ : List K) → (i : Nat) → HL Γ → (getK Γ i).α
  | [], _, _ => ()
  | _ :: _, 0, γ => γ.1
  | _ :: ks, i + 1, γ => getH ks i γ.2
def updK : List K → Nat → K → List K
  | [], _, _ => []
  | _ :: ks, 0, k => k :: ks
  | k' :: ks, i + 1, k => k' :: updK ks i k
def updH : (Γ : List K) → (i : Nat) → (k : K) → k.α → HL Γ → HL (updK Γ i k)
  | [], _, _, _, _ => ()
  | _ :: _, 0, _, x, γ => (x, γ.2)
  | _ :: ks, i + 1, k, x, γ => (γ.1, updH ks i k x γ.2)
theorem rel_len : ∀ {Γ : List K} {n : Nat} {γ : HL Γ} {r : Env}, RelF Γ n γ r → r.length = n + Γ.length
  | [], n, γ, r, h => h
  | k :: ks, n, γ, r, h => by
    have := rel_len h.2
    simp only [List.length_cons]; omega
theorem rel_get0 : ∀ {Γ : List K} (i n : Nat) {γ : HL Γ} {r : Env}, i < Γ.length → RelF Γ n γ r → relS (getK Γ i) (getH Γ i γ) (r[n + i]?)
  | [], i, n, γ, r, hi, h => by simp at hi
  | k :: ks, 0, n, γ, r, hi, h => h.1
  | k :: ks, i + 1, n, γ, r, hi, h => by
    have := rel_get0 i (n + 1) (by simpa using hi) h.2
    rw [show n + 1 + i = n + (i + 1) by omega] at this
    exact this
/-- a slot looked up -/
theorem rg {Γ : List K} (i : Nat) (hi : Nat.blt i Γ.length = true) (γ : HL Γ) (r : Env) (h : Rel Γ γ r) : relS (getK Γ i) (getH Γ i γ) (r[i]?) := by
  have := rel_get0 i 0 (Nat.blt_eq.mp hi) h
  rwa [Nat.zero_add] at this
theorem rel_eq : ∀ {Γ : List K} {n : Nat} {γ : HL Γ} {r r' : Env}, RelF Γ n γ r → (∀ j, n ≤ j → r'[j]? = r[j]?) → r'.length = r.length → RelF Γ n γ r'
  | [], n, γ, r, r', h, _, hl => by
    show r'.length = n
    rw [hl]; exact h
  | k :: ks, n, γ, r, r', h, hj, hl => ⟨by rw [hj n (by omega)]; exact h.1, rel_eq h.2 (fun j q => hj j (by omega)) hl⟩
theorem rel_upd0 : ∀ {Γ : List K} (i n : Nat) {γ : HL Γ} {r : Env} (k : K) (x : k.α) (s : Slot), relS k x (some s) → RelF Γ n γ r → RelF (updK Γ i k) n (updH Γ i k x γ) (r.set (n + i) s)
  | [], i, n, γ, r, k, x, s, hs, h => by
    show (r.set (n + i) s).length = n
    simp only [List.length_set]; exact h
  | k' :: ks, 0, n, γ, r, k, x, s, hs, h => by
    have hl := rel_len h
    simp only [List.length_cons] at hl
    refine ⟨?_, rel_eq h.2 (fun j q => ?_) (by simp)⟩
    · show relS k x ((r.set (n + 0) s)[n]?)
      rw [Nat.add_zero, List.getElem?_set_self (by omega)]
      exact hs
    · rw [List.getElem?_set_ne (by omega)]
  | k' :: ks, i + 1, n, γ, r, k, x, s, hs, h => by
    refine ⟨?_, ?_⟩
    · show relS k' γ.1 ((r.set (n + (i + 1)) s)[n]?)
      rw [List.getElem?_set_ne (by omega)]
      exact h.1
    · have := rel_upd0 i (n + 1) k x s hs h.2
      rw [show n + 1 + i = n + (i + 1) by omega] at this
      exact this
theorem ru {Γ : List K} (i : Nat) (k : K) (x : k.α) (γ : HL Γ) (r : Env) (s : Slot) (h : Rel Γ γ r) (hs : relS k x (some s)) : Rel (updK Γ i k) (updH Γ i k x γ) (r.set i s) := by
  have := rel_upd0 i 0 k x s hs h
  rwa [Nat.zero_add] at this
/-- a new value into slot i -/
structure Up {α : Type} (Γ Γ' : List K) (i : Nat) (e : α → D) (up : α → HL Γ → HL Γ') : Prop where
  h : ∀ x γ r, Rel Γ γ r → Rel Γ' (up x γ) (r.set i (.val (e x)))
theorem up_V {α : Type} {Γ : List K} (i : Nat) (e : α → D) : Up Γ (updK Γ i (kV e)) i e (fun x γ => updH Γ i (kV e) x γ) := ⟨fun x γ r h => ru i (kV e) x γ r _ h rfl⟩
structure UpO {α : Type} (Γ Γ' : List K) (i : Nat) (e : α → D) (up : α → HL Γ → HL Γ') : Prop where
  h : ∀ x γ r, Rel Γ γ r → Rel Γ' (up x γ) (r.set i (.own 1 (e x)))
theorem up_O {α : Type} {Γ : List K} (i : Nat) (e : α → D) : UpO Γ (updK Γ i (kO e)) i e (fun x γ => updH Γ i (kO e) x γ) := ⟨fun x γ r h => ru i (kO e) x γ r _ h rfl⟩
inductive Mu | i | p | f
def muS : Mu → Slot → Slot
  | .i, s => s
  | .p, s => prtS s
  | .f, s => frzS s
def mu (μ : Mu) (r : Env) : Env := r.map (muS μ)
theorem mu_i (r : Env) : mu .i r = r := by
  show r.map (fun s => s) = r
  simp
theorem mu_p (r : Env) : mu .p r = prtA r := rfl
theorem mu_f (r : Env) : mu .f r = frzA r := rfl
theorem mu_val (μ : Mu) (d : D) : muS μ (.val d) = .val d := by cases μ <;> rfl
theorem mu_non (μ : Mu) : muS μ .non = .non := by cases μ <;> rfl
theorem mu_get (μ : Mu) (r : Env) (i : Nat) : (mu μ r)[i]? = (r[i]?).map (muS μ) := by simp [mu]
theorem mu_set (μ : Mu) (r : Env) (i : Nat) (s : Slot) : mu μ (r.set i s) = (mu μ r).set i (muS μ s) := by simp [mu, List.map_set]
section
variable {T : Nat → Option Fn} {c : Nat → List D → OutC} {μ : Mu} {Γ : List K} {α β δ : Type} {e e1 : α → D} {e2 : β → D} {e3 : δ → D} {m a b : ME}
structure TE (T : Nat → Option Fn) (c : Nat → List D → OutC) (μ : Mu) (Γ : List K) (m : ME) {α : Type} (e : α → D) (d : HL Γ → Option α) : Prop where
  h : ∀ γ r v, Rel Γ γ r → d γ = some v → EvE T c (mu μ r) m (e v)
/-- a look at a slot -/
structure Lk (Γ : List K) (i : Nat) {α : Type} (e : α → D) (g : HL Γ → α) : Prop where
  h : ∀ γ r, Rel Γ γ r → r[i]? = some (.val (e (g γ)))
structure LkO (Γ : List K) (i : Nat) {α : Type} (e : α → D) (g : HL Γ → α) : Prop where
  h : ∀ γ r, Rel Γ γ r → r[i]? = some (.own 1 (e (g γ)))
structure LkM (Γ : List K) (i : Nat) {α : Type} (e : α → D) (g : HL Γ → α) : Prop where
  h : ∀ γ r, Rel Γ γ r → r[i]? = some (.mut (e (g γ)))
theorem te_var {i : Nat} {g : HL Γ → α} (h : Lk Γ i e g) : TE T c μ Γ (.var i) e (fun γ => some (g γ)) := ⟨fun γ r v hr hv => by
  cases hv
  refine ev_var ?_
  have q := h.h γ r hr
  simp only [getV, mu_get, q, Option.map_some, mu_val]⟩
theorem te_varO {i : Nat} {g : HL Γ → α} (h : LkO Γ i e g) : TE T c .f Γ (.var i) e (fun γ => some (g γ)) := ⟨fun γ r v hr hv => by
  cases hv
  refine ev_var ?_
  have q := h.h γ r hr
  simp only [getV, mu_get, q, Option.map_some]; rfl⟩
theorem te_varM {i : Nat} {g : HL Γ → α} (h : LkM Γ i e g) : TE T c .f Γ (.var i) e (fun γ => some (g γ)) := ⟨fun γ r v hr hv => by
  cases hv
  refine ev_var ?_
  have q := h.h γ r hr
  simp only [getV, mu_get, q, Option.map_some]; rfl⟩
theorem te_con (e : α → D) (x : α) {d : D} (h : d = e x) : TE T c μ Γ (.con d) e (fun _ => some x) := ⟨fun γ r v hr hv => by cases hv; rw [h]; exact ev_con⟩
/-- another type for the same data -/
theorem te_co {d : HL Γ → Option α} (co : α → β) (hc : ∀ x, e1 x = e2 (co x)) (h : TE T c μ Γ m e1 d) : TE T c μ Γ m e2 (fun γ => (d γ).map co) := ⟨fun γ r v hr hv => by
  simp only [Option.map_eq_some_iff] at hv
  obtain ⟨x, hx, rfl⟩ := hv
  rw [← hc]
  exact h.h γ r x hr hx⟩
/-- a narrower type for the same data -/
theorem te_na {d : HL Γ → Option α} (co : α → Option β) (hc : ∀ x y, co x = some y → e1 x = e2 y) (h : TE T c μ Γ m e1 d) : TE T c μ Γ m e2 (fun γ => (d γ).bind co) := ⟨fun γ r v hr hv => by
  obtain ⟨x, hx, hy⟩ := bs hv
  rw [← hc x v hy]
  exact h.h γ r x hr hx⟩
theorem co_O (e : α → D) (x : α) : e x = eO e (some x) := rfl
theorem co_U (e : α → D) (x : Unit) : eU x = eO e none := rfl
theorem na_O {e : α → D} (x : Option α) (y : α) (h : x = some y) : eO e x = e y := by rw [h]; rfl
theorem te_bin {op : BOp} {f : α → β → Option δ} {da : HL Γ → Option α} {db : HL Γ → Option β} (h : ∀ x y v, f x y = some v → BinR op (e1 x) (e2 y) (e3 v)) (ha : TE T c μ Γ a e1 da) (hb : TE T c μ Γ b e2 db) : TE T c μ Γ (.bin op a b) e3 (fun γ => (da γ).bind fun x => (db γ).bind fun y => f x y) := ⟨fun γ r v hr hv => by
  obtain ⟨x, hx, hv⟩ := bs hv
  obtain ⟨y, hy, hv⟩ := bs hv
  exact ev_bin (ha.h γ r x hr hx) (hb.h γ r y hr hy) (h x y v hv)⟩
theorem te_cmp {op : COp} {f : α → β → Bool} {da : HL Γ → Option α} {db : HL Γ → Option β} (h : ∀ x y, CmpR op (e1 x) (e2 y) (f x y)) (ha : TE T c μ Γ a e1 da) (hb : TE T c μ Γ b e2 db) : TE T c μ Γ (.cmp op a b) eB (fun γ => (da γ).bind fun x => (db γ).bind fun y => some (f x y)) := ⟨fun γ r v hr hv => by
  obtain ⟨x, hx, hv⟩ := bs hv
  obtain ⟨y, hy, hv⟩ := bs hv
  cases hv
  exact ev_cmp (ha.h γ r x hr hx) (hb.h γ r y hr hy) (h x y)⟩
theorem te_chain {p q : COp} {f : α → β → Bool} {g : β → δ → Bool} {m : ME} {da : HL Γ → Option α} {db : HL Γ → Option β} {dc : HL Γ → Option δ} (h1 : ∀ x y, CmpR p (e1 x) (e2 y) (f x y)) (h2 : ∀ x y, CmpR q (e2 x) (e3 y) (g x y)) (ha : TE T c μ Γ a e1 da) (hb : TE T c μ Γ b e2 db) (hc : TE T c μ Γ m e3 dc) : TE T c μ Γ (.chain p q a b m) eB (fun γ => (da γ).bind fun x => (db γ).bind fun y => if f x y then (dc γ).bind fun z => some (g y z) else some false) := ⟨fun γ r v hr hv => by
  obtain ⟨x, hx, hv⟩ := bs hv
  obtain ⟨y, hy, hv⟩ := bs hv
  constructor
  simp only [evE, (ha.h γ r x hr hx).h, (hb.h γ r y hr hy).h, b_ok, (h1 x y).h, lift_some]
  cases hk : f x y with
  | true =>
    rw [hk, if_pos rfl] at hv
    obtain ⟨z, hz, hv⟩ := bs hv
    cases hv
    simp only [if_true, (hc.h γ r z hr hz).h, b_ok, (h2 y z).h, Option.map_some, lift_some]
  | false =>
    rw [hk, if_neg Bool.false_ne_true] at hv
    cases hv
    simp only [Bool.false_eq_true, if_false]⟩
theorem te_and {da db : HL Γ → Option Bool} (ha : TE T c μ Γ a eB da) (hb : TE T c μ Γ b eB db) : TE T c μ Γ (.and a b) eB (fun γ => (da γ).bind fun k => if k then db γ else some false) := ⟨fun γ r v hr hv => by
  obtain ⟨k, hk, hv⟩ := bs hv
  exact ev_andO (ha.h γ r k hr hk) (fun _ l hl => hb.h γ r l hr hl) hv⟩
theorem te_or {da db : HL Γ → Option Bool} (ha : TE T c μ Γ a eB da) (hb : TE T c μ Γ b eB db) : TE T c μ Γ (.or a b) eB (fun γ => (da γ).bind fun k => if k then some true else db γ) := ⟨fun γ r v hr hv => by
  obtain ⟨k, hk, hv⟩ := bs hv
  exact ev_orO (ha.h γ r k hr hk) (fun _ l hl => hb.h γ r l hr hl) hv⟩
theorem te_not {da : HL Γ → Option Bool} (ha : TE T c μ Γ a eB da) : TE T c μ Γ (.not a) eB (fun γ => (da γ).bind fun k => some (!k)) := ⟨fun γ r v hr hv => by
  obtain ⟨k, hk, hv⟩ := bs hv
  cases hv
  exact ev_not (ha.h γ r k hr hk) (t_b k)⟩
theorem te_notT {f : α → Bool} {da : HL Γ → Option α} (ht : ∀ x, Trth (e x) (f x)) (ha : TE T c μ Γ a e da) : TE T c μ Γ (.not a) eB (fun γ => (da γ).bind fun k => some (!f k)) := ⟨fun γ r v hr hv => by
  obtain ⟨k, hk, hv⟩ := bs hv
  cases hv
  exact ev_not (ha.h γ r k hr hk) (ht k)⟩
theorem te_neg {da : HL Γ → Option Int} (ha : TE T c μ Γ a eI da) : TE T c μ Γ (.neg a) eI (fun γ => (da γ).bind fun k => some (-k)) := ⟨fun γ r v hr hv => by
  obtain ⟨k, hk, hv⟩ := bs hv
  cases hv
  exact ev_neg (ha.h γ r k hr hk) rfl⟩
theorem te_ite {m : ME} {dc : HL Γ → Option Bool} {da db : HL Γ → Option α} (hc : TE T c μ Γ m eB dc) (ha : TE T c μ Γ a e da) (hb : TE T c μ Γ b e db) : TE T c μ Γ (.ite m a b) e (fun γ => (dc γ).bind fun k => if k then da γ else db γ) := ⟨fun γ r v hr hv => by
  obtain ⟨k, hk, hv⟩ := bs hv
  exact ev_iteO (hc.h γ r k hr hk) (t_b k) (fun _ l hl => ha.h γ r l hr hl) (fun _ l hl => hb.h γ r l hr hl) hv⟩
theorem te_iteT {m : ME} {f : β → Bool} {dc : HL Γ → Option β} {da db : HL Γ → Option α} (ht : ∀ x, Trth (e2 x) (f x)) (hc : TE T c μ Γ m e2 dc) (ha : TE T c μ Γ a e da) (hb : TE T c μ Γ b e db) : TE T c μ Γ (.ite m a b) e (fun γ => (dc γ).bind fun k => if f k then da γ else db γ) := ⟨fun γ r v hr hv => by
  obtain ⟨k, hk, hv⟩ := bs hv
  exact ev_iteO (hc.h γ r k hr hk) (ht k) (fun _ l hl => ha.h γ r l hr hl) (fun _ l hl => hb.h γ r l hr hl) hv⟩
theorem te_idx {f : α → β → Option δ} {da : HL Γ → Option α} {db : HL Γ → Option β} (h : ∀ x y v, f x y = some v → IdxR (e1 x) (e2 y) (e3 v)) (ha : TE T c μ Γ a e1 da) (hb : TE T c μ Γ b e2 db) : TE T c μ Γ (.idx a b) e3 (fun γ => (da γ).bind fun x => (db γ).bind fun y => f x y) := ⟨fun γ r v hr hv => by
  obtain ⟨x, hx, hv⟩ := bs hv
  obtain ⟨y, hy, hv⟩ := bs hv
  exact ev_idx (ha.h γ r x hr hx) (hb.h γ r y hr hy) (h x y v hv)⟩
/-- any slot that may be looked into -/
structure LkA (μ : Mu) (Γ : List K) (i : Nat) {α : Type} (e : α → D) (g : HL Γ → α) : Prop where
  h : ∀ γ r, Rel Γ γ r → getA (mu μ r) i = some (e (g γ))
theorem la_O {i : Nat} {g : HL Γ → α} (h : LkO Γ i e g) : LkA μ Γ i e g := ⟨fun γ r hr => by
  simp only [getA, mu_get, h.h γ r hr, Option.map_some]
  cases μ <;> rfl⟩
theorem la_M {i : Nat} {g : HL Γ → α} (h : LkM Γ i e g) : LkA μ Γ i e g := ⟨fun γ r hr => by
  simp only [getA, mu_get, h.h γ r hr, Option.map_some]
  cases μ <;> rfl⟩
theorem la_V {i : Nat} {g : HL Γ → α} (h : Lk Γ i e g) : LkA μ Γ i e g := ⟨fun γ r hr => by
  simp only [getA, mu_get, h.h γ r hr, Option.map_some]
  cases μ <;> rfl⟩
theorem te_sidx {i : Nat} {g : HL Γ → α} {f : α → β → Option δ} {db : HL Γ → Option β} (h : ∀ x y v, f x y = some v → IdxR (e1 x) (e2 y) (e3 v)) (ha : LkA μ Γ i e1 g) (hb : TE T c μ Γ b e2 db) : TE T c μ Γ (.sidx i b) e3 (fun γ => (db γ).bind fun y => f (g γ) y) := ⟨fun γ r v hr hv => by
  obtain ⟨y, hy, hv⟩ := bs hv
  exact ev_sidx (ha.h γ r hr) (hb.h γ r y hr hy) (h _ y v hv)⟩
theorem te_bi1 {bi : Bi} {f : α → Option β} {da : HL Γ → Option α} (h : ∀ x v, f x = some v → BiR bi [e1 x] (e2 v)) (ha : TE T c μ Γ a e1 da) : TE T c μ Γ (.bi bi [a]) e2 (fun γ => (da γ).bind fun x => f x) := ⟨fun γ r v hr hv => by
  obtain ⟨x, hx, hv⟩ := bs hv
  exact ev_bi (evs_cons (ha.h γ r x hr hx) evs_nil) (h x v hv)⟩
theorem te_bi2 {bi : Bi} {f : α → β → Option δ} {da : HL Γ → Option α} {db : HL Γ → Option β} (h : ∀ x y v, f x y = some v → BiR bi [e1 x, e2 y] (e3 v)) (ha : TE T c μ Γ a e1 da) (hb : TE T c μ Γ b e2 db) : TE T c μ Γ (.bi bi [a, b]) e3 (fun γ => (da γ).bind fun x => (db γ).bind fun y => f x y) := ⟨fun γ r v hr hv => by
  obtain ⟨x, hx, hv⟩ := bs hv
  obtain ⟨y, hy, hv⟩ := bs hv
  exact ev_bi (evs_cons (ha.h γ r x hr hx) (evs_cons (hb.h γ r y hr hy) evs_nil)) (h x y v hv)⟩
theorem te_isa {ts : List Ty} (k : Bool) {da : HL Γ → Option α} (hp : ∀ x, (e x).plain = true) (h : ∀ x, (ts.any fun t => isaTy t (e x)) = k) (ha : TE T c μ Γ a e da) : TE T c μ Γ (.isa a ts) eB (fun γ => (da γ).bind fun _ => some k) := ⟨fun γ r v hr hv => by
  obtain ⟨x, hx, hv⟩ := bs hv
  cases hv
  exact ev_isa (ha.h γ r x hr hx) (hp x) (h x)⟩
theorem te_rng {da db : HL Γ → Option Int} (ha : TE T c μ Γ a eI da) (hb : TE T c μ Γ b eI db) : TE T c μ Γ (.rng a b) (eL eI) (fun γ => (da γ).bind fun x => (db γ).bind fun y => rngO x y) := ⟨fun γ r v hr hv => by
  obtain ⟨x, hx, hv⟩ := bs hv
  obtain ⟨y, hy, hv⟩ := bs hv
  exact ev_rng (ha.h γ r x hr hx) (hb.h γ r y hr hy) (rng_I hv)⟩
theorem te_zip {f : α → β → δ} {da : HL Γ → Option α} {db : HL Γ → Option β} (h : ∀ x y, zipD (e1 x) (e2 y) = some (e3 (f x y))) (ha : TE T c μ Γ a e1 da) (hb : TE T c μ Γ b e2 db) : TE T c μ Γ (.zip a b) e3 (fun γ => (da γ).bind fun x => (db γ).bind fun y => some (f x y)) := ⟨fun γ r v hr hv => by
  obtain ⟨x, hx, hv⟩ := bs hv
  obtain ⟨y, hy, hv⟩ := bs hv
  cases hv
  constructor
  simp only [evE, (ha.h γ r x hr hx).h, (hb.h γ r y hr hy).h, b_ok, h, lift_some]⟩
theorem te_rev {f : α → β} {da : HL Γ → Option α} (h : ∀ x, revD (e1 x) = some (e2 (f x))) (ha : TE T c μ Γ a e1 da) : TE T c μ Γ (.rev a) e2 (fun γ => (da γ).bind fun x => some (f x)) := ⟨fun γ r v hr hv => by
  obtain ⟨x, hx, hv⟩ := bs hv
  cases hv
  constructor
  simp only [evE, (ha.h γ r x hr hx).h, b_ok, h, lift_some]⟩
theorem te_enum {f : α → β} {da : HL Γ → Option α} (h : ∀ x, enumD (e1 x) = some (e2 (f x))) (ha : TE T c μ Γ a e1 da) : TE T c μ Γ (.enum a) e2 (fun γ => (da γ).bind fun x => some (f x)) := ⟨fun γ r v hr hv => by
  obtain ⟨x, hx, hv⟩ := bs hv
  cases hv
  constructor
  simp only [evE, (ha.h γ r x hr hx).h, b_ok, h, lift_some]⟩
/-- slices -/
structure TB (T : Nat → Option Fn) (c : Nat → List D → OutC) (μ : Mu) (Γ : List K) (m : Option ME) (d : HL Γ → Option (Option Int)) : Prop where
  h : ∀ γ r v, Rel Γ γ r → d γ = some v → EvB T c (mu μ r) m v
theorem tb_none : TB T c μ Γ none (fun _ => some none) := ⟨fun γ r v hr hv => by cases hv; exact eb_none⟩
theorem tb_some {da : HL Γ → Option Int} (ha : TE T c μ Γ a eI da) : TB T c μ Γ (some a) (fun γ => (da γ).bind fun x => some (some x)) := ⟨fun γ r v hr hv => by
  obtain ⟨x, hx, hv⟩ := bs hv
  cases hv
  exact eb_some (ha.h γ r x hr hx)⟩
theorem te_slc {lo hi : Option ME} {f : α → Option Int → Option Int → β} {da : HL Γ → Option α} {dl dh : HL Γ → Option (Option Int)} (h : ∀ x l h, slcD (e1 x) l h = some (e2 (f x l h))) (ha : TE T c μ Γ a e1 da) (hl : TB T c μ Γ lo dl) (hh : TB T c μ Γ hi dh) : TE T c μ Γ (.slc a lo hi) e2 (fun γ => (da γ).bind fun x => (dl γ).bind fun l => (dh γ).bind fun h => some (f x l h)) := ⟨fun γ r v hr hv => by
  obtain ⟨x, hx, hv⟩ := bs hv
  obtain ⟨l, hl', hv⟩ := bs hv
  obtain ⟨hh', hh'', hv⟩ := bs hv
  cases hv
  exact ev_slc (ha.h γ r x hr hx) (hl.h γ r l hr hl') (hh.h γ r hh' hr hh'') (h x l hh')⟩
/-- several of one type -/
structure TEL (T : Nat → Option Fn) (c : Nat → List D → OutC) (μ : Mu) (Γ : List K) (ms : List ME) {α : Type} (e : α → D) (d : HL Γ → Option (List α)) : Prop where
  h : ∀ γ r v, Rel Γ γ r → d γ = some v → EvEs T c (mu μ r) ms (v.map e) ∧ v.length = ms.length
theorem tl_nil : TEL T c μ Γ [] e (fun _ => some []) := ⟨fun γ r v hr hv => by cases hv; exact ⟨evs_nil, rfl⟩⟩
theorem tl_cons {ms : List ME} {da : HL Γ → Option α} {ds : HL Γ → Option (List α)} (ha : TE T c μ Γ a e da) (hs : TEL T c μ Γ ms e ds) : TEL T c μ Γ (a :: ms) e (fun γ => (da γ).bind fun x => (ds γ).bind fun xs => some (x :: xs)) := ⟨fun γ r v hr hv => by
  obtain ⟨x, hx, hv⟩ := bs hv
  obtain ⟨y, hy, hv⟩ := bs hv
  cases hv
  have q := hs.h γ r y hr hy
  exact ⟨evs_cons (ha.h γ r x hr hx) q.1, by simp [q.2]⟩⟩
theorem te_tup {ms : List ME} {ds : HL Γ → Option (List α)} (hl : Nat.ble ms.length LIM = true) (hs : TEL T c μ Γ ms e ds) : TE T c μ Γ (.tup ms) (eT e) ds := ⟨fun γ r v hr hv => by
  have q := hs.h γ r v hr hv
  exact ev_tup q.1 (by rw [List.length_map, q.2]; exact Nat.le_of_ble_eq_true hl)⟩
theorem te_lst {ms : List ME} {ds : HL Γ → Option (List α)} (hl : Nat.ble ms.length LIM = true) (hs : TEL T c μ Γ ms e ds) : TE T c μ Γ (.lst ms) (eL e) ds := ⟨fun γ r v hr hv => by
  have q := hs.h γ r v hr hv
  exact ev_lst q.1 (by rw [List.length_map, q.2]; exact Nat.le_of_ble_eq_true hl)⟩
theorem te_p2 {da : HL Γ → Option α} {db : HL Γ → Option β} (ha : TE T c μ Γ a e1 da) (hb : TE T c μ Γ b e2 db) : TE T c μ Γ (.tup [a, b]) (eP2 e1 e2) (fun γ => (da γ).bind fun x => (db γ).bind fun y => some (x, y)) := ⟨fun γ r v hr hv => by
  obtain ⟨x, hx, hv⟩ := bs hv
  obtain ⟨y, hy, hv⟩ := bs hv
  cases hv
  exact ev_tup (evs_cons (ha.h γ r x hr hx) (evs_cons (hb.h γ r y hr hy) evs_nil)) (by simp [LIM])⟩
theorem te_p3 {m : ME} {da : HL Γ → Option α} {db : HL Γ → Option β} {dc : HL Γ → Option δ} (ha : TE T c μ Γ a e1 da) (hb : TE T c μ Γ b e2 db) (hc : TE T c μ Γ m e3 dc) : TE T c μ Γ (.tup [a, b, m]) (eP3 e1 e2 e3) (fun γ => (da γ).bind fun x => (db γ).bind fun y => (dc γ).bind fun z => some (x, y, z)) := ⟨fun γ r v hr hv => by
  obtain ⟨x, hx, hv⟩ := bs hv
  obtain ⟨y, hy, hv⟩ := bs hv
  obtain ⟨z, hz, hv⟩ := bs hv
  cases hv
  exact ev_tup (evs_cons (ha.h γ r x hr hx) (evs_cons (hb.h γ r y hr hy) (evs_cons (hc.h γ r z hr hz) evs_nil))) (by simp [LIM])⟩
/-- a list literal, n times -/
def repO (xs : List α) (n : Int) : Option (List α) := if (inI n && Nat.ble (xs.length * n.toNat) LIM) = true then some (List.replicate n.toNat xs).flatten else none
theorem te_lrep {ms : List ME} {ds : HL Γ → Option (List α)} {db : HL Γ → Option Int} (hl : Nat.ble ms.length LIM = true) (hs : TEL T c μ Γ ms e ds) (hb : TE T c μ Γ b eI db) : TE T c μ Γ (.lrep ms b) (eL e) (fun γ => (ds γ).bind fun xs => (db γ).bind fun n => repO xs n) := ⟨fun γ r v hr hv => by
  obtain ⟨xs, hx, hv⟩ := bs hv
  obtain ⟨n, hn, hv⟩ := bs hv
  have q := hs.h γ r xs hr hx
  have hl' := Nat.le_of_ble_eq_true hl
  unfold repO at hv
  split at hv
  · rename_i hc
    cases hv
    constructor
    have hb' := (hb.h γ r n hr hn).h
    simp only [evE, q.1.h, b_ok, List.length_map, q.2, hl', if_true, hb', eI, repD]
    rw [q.2, Bool.and_eq_true] at hc
    have hb1 := inI_b hc.1
    have hb2 := Nat.le_of_ble_eq_true hc.2
    rw [if_pos (show -(2 ^ 63) ≤ n ∧ n < 2 ^ 63 ∧ ms.length * n.toNat ≤ LIM by omega)]
    simp only [lift_some, eL, List.map_flatten, List.map_replicate]
  · cases hv⟩
/-- arguments of a call -/
def encA : (ps : List K) → HL ps → List D
  | [], _ => []
  | k :: ks, a => k.e a.1 :: encA ks a.2
structure TA (T : Nat → Option Fn) (c : Nat → List D → OutC) (μ : Mu) (Γ : List K) (ms : List ME) (ps : List K) (d : HL Γ → Option (HL ps)) : Prop where
  h : ∀ γ r v n, Rel Γ γ r → d γ = some v → EvAs T c (mu μ r) n ms (encA ps v)
theorem ta_nil : TA T c μ Γ [] [] (fun _ => some ()) := ⟨fun γ r v n hr hv => as_nil⟩
theorem ta_cons {ms : List ME} {ps : List K} {da : HL Γ → Option α} {ds : HL Γ → Option (HL ps)} (ha : TE T c μ Γ a e da) (hs : TA T c μ Γ ms ps ds) : TA T c μ Γ (a :: ms) (kV e :: ps) (fun γ => (da γ).bind fun x => (ds γ).bind fun xs => some (x, xs)) := ⟨fun γ r v n hr hv => by
  obtain ⟨x, hx, hv⟩ := bs hv
  obtain ⟨y, hy, hv⟩ := bs hv
  cases hv
  exact as_cons (ha.h γ r x hr hx) (hs.h γ r y (n + 1) hr hy)⟩
/-- what a function without changed lists computes -/
structure FS (c : Nat → List D → OutC) (f : Nat) (ps : List K) (e : α → D) (g : HL ps → Option α) : Prop where
  h : ∀ a v, g a = some v → Cal c f (encA ps a) (e v)
theorem te_call {f : Nat} {fn : Fn} {ms : List ME} {ps : List K} {g : HL ps → Option α} {ds : HL Γ → Option (HL ps)} (hT : T f = some fn) (hio : fn.io = []) (hf : FS c f ps e g) (hs : TA T c μ Γ ms ps ds) : TE T c μ Γ (.call f ms) e (fun γ => (ds γ).bind fun a => g a) := ⟨fun γ r v hr hv => by
  obtain ⟨x, hx, hv⟩ := bs hv
  exact ev_call hT hio (hs.h γ r x 0 hr hx) (hf.h x v hv)⟩
end
end Cw.J
end

section
namespace Cw.J
open PySem
mutual
theorem asgG_map {f : Slot → Slot} (hf : ∀ d, f (.val d) = .val d) : ∀ (t : Tg) (d : D) (r : Env), asgG t d (r.map f) = (asgG t d r).map fun r' => r'.map f
  | .nm i, d, r => by simp [asgG, List.map_set, hf]
  | .tup ts, d, r => by
    cases d <;> simp only [asgG, Option.map_none]
    exact asgTs_map hf ts _ r
theorem asgTs_map {f : Slot → Slot} (hf : ∀ d, f (.val d) = .val d) : ∀ (ts : List Tg) (ds : List D) (r : Env), asgTs ts ds (r.map f) = (asgTs ts ds r).map fun r' => r'.map f
  | [], [], r => by simp [asgTs]
  | [], _ :: _, r => by simp [asgTs]
  | t :: ts, [], r => by simp [asgTs]
  | t :: ts, d :: ds, r => by
    simp only [asgTs, asgG_map hf t d r]
    cases asgG t d r with
    | none => rfl
    | some r' => exact asgTs_map hf ts ds r'
end
mutual
theorem asgG_ne : ∀ (t : Tg) (d : D) (r r2 : Env), asgG t d r = some r2 → r2.length = r.length ∧ ∀ j, j ∉ tgS t → r2[j]? = r[j]?
  | .nm i, d, r, r2, h => by
    simp only [asgG, Option.some.injEq] at h
    subst h
    refine ⟨by simp, fun j hj => ?_⟩
    simp only [tgS, List.mem_singleton] at hj
    exact List.getElem?_set_ne (fun q => hj q.symm)
  | .tup ts, d, r, r2, h => by
    cases d <;> simp only [asgG] at h <;> try (exact absurd h (by simp))
    simp only [tgS]
    exact asgTs_ne ts _ r r2 h
theorem asgTs_ne : ∀ (ts : List Tg) (ds : List D) (r r2 : Env), asgTs ts ds r = some r2 → r2.length = r.length ∧ ∀ j, j ∉ tgSs ts → r2[j]? = r[j]?
  | [], [], r, r2, h => by simp only [asgTs, Option.some.injEq] at h; subst h; exact ⟨rfl, fun _ _ => rfl⟩
  | [], _ :: _, r, r2, h => by simp [asgTs] at h
  | t :: ts, [], r, r2, h => by simp [asgTs] at h
  | t :: ts, d :: ds, r, r2, h => by
    simp only [asgTs] at h
    obtain ⟨r1, h1, h2⟩ := bs h
    obtain ⟨a1, b1⟩ := asgG_ne t d r r1 h1
    obtain ⟨a2, b2⟩ := asgTs_ne ts ds r1 r2 h2
    refine ⟨a2.trans a1, fun j hj => ?_⟩
    simp only [tgSs, List.mem_append, not_or] at hj
    rw [b2 j hj.2, b1 j hj.1]
end
theorem wipe_len : ∀ {vs : List Nat} {l : Env}, (wipeE l vs).length = l.length
  | [], l => rfl
  | v :: vs, l => by simp only [wipeE, List.length_set]; exact wipe_len
theorem wipe_get {i : Nat} : ∀ {vs : List Nat} {l : Env}, (wipeE l vs)[i]? = if i ∈ vs then (if i < l.length then some .non else none) else l[i]?
  | [], l => by simp [wipeE]
  | v :: vs, l => by
    by_cases e : i = v
    · subst e
      simp only [wipeE, List.mem_cons, true_or, if_true]
      split
      · rename_i h
        rw [List.getElem?_set_self (by rw [wipe_len]; exact h)]
      · rename_i h
        rw [List.getElem?_eq_none (by simp only [List.length_set, wipe_len]; omega)]
    · simp only [wipeE, List.mem_cons, e, false_or]
      rw [List.getElem?_set_ne (fun q => e q.symm)]
      exact wipe_get
theorem wipe_same {vs : List Nat} {r r2 : Env} (hl : r2.length = r.length) (h : ∀ j, j ∉ vs → r2[j]? = r[j]?) : wipeE r2 vs = wipeE r vs := by
  apply List.ext_getElem?
  intro i
  rw [wipe_get, wipe_get, hl]
  split
  · rfl
  · rename_i hi
    exact h i hi
theorem wipe_asg {t : Tg} {d : D} {r r2 : Env} (h : asgG t d r = some r2) : wipeE r2 (tgS t) = wipeE r (tgS t) := wipe_same (asgG_ne t d r r2 h).1 (asgG_ne t d r r2 h).2
theorem wipe_wipe {vs : List Nat} {r : Env} : wipeE (wipeE r vs) vs = wipeE r vs := wipe_same wipe_len fun j hj => by rw [wipe_get, if_neg hj]
theorem wipe_mu (μ : Mu) : ∀ (vs : List Nat) (r : Env), wipeE (mu μ r) vs = mu μ (wipeE r vs)
  | [], r => rfl
  | v :: vs, r => by simp only [wipeE, wipe_mu μ vs r, mu_set, mu_non]
theorem unwipe_len {r0 : Env} : ∀ {vs : List Nat} {l : Env}, (unwipeE r0 l vs).length = l.length
  | [], l => rfl
  | v :: vs, l => by simp only [unwipeE, List.length_set]; exact unwipe_len
theorem unwipe_get {r0 : Env} {i : Nat} : ∀ {vs : List Nat} {l : Env}, (unwipeE r0 l vs)[i]? = if i ∈ vs then (if i < l.length then some (r0.getD i .non) else none) else l[i]?
  | [], l => by simp [unwipeE]
  | v :: vs, l => by
    by_cases e : i = v
    · subst e
      simp only [unwipeE, List.mem_cons, true_or, if_true]
      split
      · rename_i h
        rw [List.getElem?_set_self (by rw [unwipe_len]; exact h)]
      · rename_i h
        rw [List.getElem?_eq_none (by simp only [List.length_set, unwipe_len]; omega)]
    · simp only [unwipeE, List.mem_cons, e, false_or]
      rw [List.getElem?_set_ne (fun q => e q.symm)]
      exact unwipe_get
theorem unwipe_wipe {vs : List Nat} {r : Env} : unwipeE r (wipeE r vs) vs = r := by
  apply List.ext_getElem?
  intro i
  rw [unwipe_get, wipe_get, wipe_len]
  split
  · split
    · rename_i h
      rw [List.getElem?_eq_getElem h]
      simp [List.getD_eq_getElem?_getD, List.getElem?_eq_getElem h]
    · rename_i h
      rw [List.getElem?_eq_none (by omega)]
  · rfl
/-- a typed target -/
structure TG {α : Type} (Γ : List K) (t : Tg) (e : α → D) (Γ' : List K) (b : α → HL Γ → Option (HL Γ')) : Prop where
  h : ∀ x γ γ' r, Rel Γ γ r → b x γ = some γ' → ∃ r', asgG t (e x) r = some r' ∧ Rel Γ' γ' r'
section
variable {α β δ : Type} {e e1 : α → D} {e2 : β → D} {e3 : δ → D} {Γ Γ1 Γ2 Γ3 Γ' : List K}
theorem tg_nm {i : Nat} {up : α → HL Γ → HL Γ'} (h : Up Γ Γ' i e up) : TG Γ (.nm i) e Γ' (fun x γ => some (up x γ)) := ⟨fun x γ γ' r hr hb => by
  cases hb
  exact ⟨_, rfl, h.h x γ r hr⟩⟩
theorem tg_p2 {t1 t2 : Tg} {b1 : α → HL Γ → Option (HL Γ1)} {b2 : β → HL Γ1 → Option (HL Γ2)} (h1 : TG Γ t1 e1 Γ1 b1) (h2 : TG Γ1 t2 e2 Γ2 b2) : TG Γ (.tup [t1, t2]) (eP2 e1 e2) Γ2 (fun x γ => (b1 x.1 γ).bind fun γ1 => b2 x.2 γ1) := ⟨fun x γ γ' r hr hb => by
  obtain ⟨γ1, q1, q2⟩ := bs hb
  obtain ⟨r1, a1, c1⟩ := h1.h _ _ _ _ hr q1
  obtain ⟨r2, a2, c2⟩ := h2.h _ _ _ _ c1 q2
  refine ⟨r2, ?_, c2⟩
  simp only [eP2, asgG, asgTs, a1, a2, Option.bind_some]⟩
theorem tg_p3 {t1 t2 t3 : Tg} {b1 : α → HL Γ → Option (HL Γ1)} {b2 : β → HL Γ1 → Option (HL Γ2)} {b3 : δ → HL Γ2 → Option (HL Γ3)} (h1 : TG Γ t1 e1 Γ1 b1) (h2 : TG Γ1 t2 e2 Γ2 b2) (h3 : TG Γ2 t3 e3 Γ3 b3) : TG Γ (.tup [t1, t2, t3]) (eP3 e1 e2 e3) Γ3 (fun x γ => (b1 x.1 γ).bind fun γ1 => (b2 x.2.1 γ1).bind fun γ2 => b3 x.2.2 γ2) := ⟨fun x γ γ' r hr hb => by
  obtain ⟨γ1, q1, hb⟩ := bs hb
  obtain ⟨γ2, q2, q3⟩ := bs hb
  obtain ⟨r1, a1, c1⟩ := h1.h _ _ _ _ hr q1
  obtain ⟨r2, a2, c2⟩ := h2.h _ _ _ _ c1 q2
  obtain ⟨r3, a3, c3⟩ := h3.h _ _ _ _ c2 q3
  refine ⟨r3, ?_, c3⟩
  simp only [eP3, asgG, asgTs, a1, a2, a3, Option.bind_some]⟩
/-- several of one type -/
structure TGs {α : Type} (Γ : List K) (ts : List Tg) (e : α → D) (Γ' : List K) (b : List α → HL Γ → Option (HL Γ')) : Prop where
  h : ∀ x γ γ' r, Rel Γ γ r → b x γ = some γ' → ∃ r', asgTs ts (x.map e) r = some r' ∧ Rel Γ' γ' r'
def unnil {α β : Type} (xs : List α) (v : Option β) : Option β := match xs with
  | [] => v
  | _ :: _ => none
def uncons {α β : Type} (xs : List α) (f : α → List α → Option β) : Option β := match xs with
  | [] => none
  | x :: xs => f x xs
theorem tgs_nil : TGs Γ [] e Γ (fun xs γ => unnil xs (some γ)) := ⟨fun x γ γ' r hr hb => by
  cases x with
  | nil => cases hb; exact ⟨r, rfl, hr⟩
  | cons y ys => cases hb⟩
theorem tgs_cons {t : Tg} {ts : List Tg} {b1 : α → HL Γ → Option (HL Γ1)} {b2 : List α → HL Γ1 → Option (HL Γ2)} (h1 : TG Γ t e Γ1 b1) (h2 : TGs Γ1 ts e Γ2 b2) : TGs Γ (t :: ts) e Γ2 (fun xs γ => uncons xs fun x xs => (b1 x γ).bind fun γ1 => b2 xs γ1) := ⟨fun x γ γ' r hr hb => by
  cases x with
  | nil => cases hb
  | cons y ys =>
    obtain ⟨γ1, q1, q2⟩ := bs hb
    obtain ⟨r1, a1, c1⟩ := h1.h _ _ _ _ hr q1
    obtain ⟨r2, a2, c2⟩ := h2.h _ _ _ _ c1 q2
    refine ⟨r2, ?_, c2⟩
    simp only [List.map_cons, asgTs, a1, a2, Option.bind_some]⟩
theorem tg_T {ts : List Tg} {b : List α → HL Γ → Option (HL Γ')} (h : TGs Γ ts e Γ' b) : TG Γ (.tup ts) (eT e) Γ' b := ⟨fun x γ γ' r hr hb => by
  obtain ⟨r', a1, c1⟩ := h.h _ _ _ _ hr hb
  exact ⟨r', by simp only [eT, asgG, a1], c1⟩⟩
/-- a frame seen otherwise -/
structure Wk (Γ Γ' : List K) (vs : List Nat) (wk : HL Γ → HL Γ') : Prop where
  h : ∀ γ r, Rel Γ γ r → Rel Γ' (wk γ) (wipeE r vs)
theorem wk_nil : Wk Γ Γ [] (fun γ => γ) := ⟨fun γ r h => h⟩
theorem wk_cons {i : Nat} {vs : List Nat} {wk : HL Γ → HL Γ'} (h : Wk Γ Γ' vs wk) : Wk Γ (updK Γ' i kN) (i :: vs) (fun γ => updH Γ' i kN () (wk γ)) := ⟨fun γ r hr => ru i kN () _ _ _ (h.h γ r hr) rfl⟩
def okK (Γ : List K) (vs : List Nat) : Bool := vs.all fun v => Nat.blt v Γ.length && match (getK Γ v).k with
  | .O => false
  | .M => false
  | .X => false
  | _ => true
theorem ok_W {γ : HL Γ} {r : Env} (h : Rel Γ γ r) (μ : Mu) {vs : List Nat} (hk : okK Γ vs = true) : okW (mu μ r) vs = true := by
  unfold okW
  unfold okK at hk
  rw [List.all_eq_true] at hk ⊢
  intro v hv
  have q := hk v hv
  rw [Bool.and_eq_true] at q
  have g := rg v q.1 γ r h
  have q2 := q.2
  rw [mu_get]
  unfold relS at g
  cases hkk : (getK Γ v).k with
  | V => rw [hkk] at g; rw [show r[v]? = _ from g]; simp [mu_val]
  | O => rw [hkk] at q2; cases q2
  | X => rw [hkk] at q2; cases q2
  | M => rw [hkk] at q2; cases q2
  | N => rw [hkk] at g; rw [show r[v]? = _ from g]; simp [mu_non]
  | J => rw [hkk] at g; rcases (show _ ∨ _ from g) with g | ⟨d, g⟩ <;> (rw [g]; simp [mu_non, mu_val])
variable {T : Nat → Option Fn} {c : Nat → List D → OutC} {μ : Mu}
structure TC (T : Nat → Option Fn) (c : Nat → List D → OutC) (μ : Mu) (Γ : List K) (m : Option ME) (d : HL Γ → Option Bool) : Prop where
  h : ∀ γ r v, Rel Γ γ r → d γ = some v → evC T c m (mu μ r) = .ok v (mu μ r)
theorem tc_none : TC T c μ Γ none (fun _ => some true) := ⟨fun γ r v hr hv => by cases hv; exact c_none⟩
theorem tc_some {m : ME} {d : HL Γ → Option Bool} (h : TE T c μ Γ m eB d) : TC T c μ Γ (some m) d := ⟨fun γ r v hr hv => c_some (h.h γ r v hr hv) (t_b v)⟩
/-- what can be walked -/
structure Its {α β : Type} (e : α → D) (e2 : β → D) (f : α → List β) : Prop where
  h : ∀ x, itemsD (e x) = some ((f x).map e2)
theorem it_L : Its (eL e) e (fun xs => xs) := ⟨fun _ => rfl⟩
theorem it_T : Its (eT e) e (fun xs => xs) := ⟨fun _ => rfl⟩
theorem it_P2 : Its (eP2 e e) e (fun p => [p.1, p.2]) := ⟨fun _ => rfl⟩
theorem it_P3 : Its (eP3 e e e) e (fun p => [p.1, p.2.1, p.2.2]) := ⟨fun _ => rfl⟩
theorem te_comp {Γw : List K} {elt it : ME} {cd : Option ME} {t : Tg} {f : α → List β} {di : HL Γ → Option α} {wk : HL Γ → HL Γw} {b : β → HL Γw → Option (HL Γ')} {dc : HL Γ' → Option Bool} {de : HL Γ' → Option δ}
    (hf : Its e1 e2 f) (hi : TE T c μ Γ it e1 di) (hk : okK Γ (tgS t) = true) (hw : Wk Γ Γw (tgS t) wk) (ht : TG Γw t e2 Γ' b) (hc : TC T c μ Γ' cd dc) (he : TE T c μ Γ' elt e3 de) :
    TE T c μ Γ (.comp elt t it cd) (eL e3) (fun γ => (di γ).bind fun x => cmpO (fun y => (b y (wk γ)).bind fun γ' => (dc γ').bind fun k => if k then (de γ').bind fun z => some (some z) else some none) LIM (f x)) := ⟨fun γ r v hr hv => by
  obtain ⟨x, hx, hv⟩ := bs hv
  refine ev_cmpO (hi.h γ r x hr hx) (hf.h x) (ok_W hr μ hk) (fun n o hg => ?_) unwipe_wipe hv
  obtain ⟨γ', h1, hg⟩ := bs hg
  obtain ⟨k, h2, hg⟩ := bs hg
  obtain ⟨r', a1, a2⟩ := ht.h n (wk γ) γ' _ (hw.h γ r hr) h1
  have a3 : asgG t (e2 n) (mu μ (wipeE r (tgS t))) = some (mu μ r') := by
    have := asgG_map (mu_val μ) t (e2 n) (wipeE r (tgS t))
    rw [a1] at this
    exact this
  rw [wipe_mu]
  refine cmp_step a3 (hc.h γ' r' k a2 h2) (fun hk' => ?_) (fun hk' => ?_) ?_
  · subst hk'
    rw [if_pos rfl] at hg
    obtain ⟨z, hz, hg⟩ := bs hg
    cases hg
    exact ⟨_, rfl, he.h γ' r' z a2 hz⟩
  · subst hk'
    rw [if_neg Bool.false_ne_true] at hg
    cases hg
    rfl
  · rw [wipe_mu, wipe_asg a1, wipe_wipe]⟩
end
end Cw.J
end

section
namespace Cw.J
open PySem
def flatO {α β : Type} (g : α → Option (List β)) : List α → Option (List β)
  | [] => some []
  | x :: xs => match g x with
    | some ys => (flatO g xs).map (ys ++ ·)
    | none => none
def limO {α : Type} (xs : List α) : Option (List α) := if xs.length ≤ LIM then some xs else none
theorem loopC2_N {α β : Type} {f : D → List D → Env → Out (List D)} {w : Env} {h : α → D} {e : β → D} {g : α → Option (List β)} (hf : ∀ n ys, g n = some ys → ∀ acc : List D, acc.length + ys.length ≤ LIM → f (h n) acc w = .ok (acc ++ ys.map e) w) : ∀ (xs : List α) (acc : List D) (ys : List β), flatO g xs = some ys → acc.length + ys.length ≤ LIM →
    loopC2 f (xs.map h) acc w = .ok (acc ++ ys.map e) w
  | [], acc, ys, hy, hl => by
    cases hy
    simp [loopC2]
  | x :: xs, acc, ys, hy, hl => by
    unfold flatO at hy
    cases hg : g x with
    | none => rw [hg] at hy; cases hy
    | some o =>
      rw [hg] at hy
      simp only [Option.map_eq_some_iff] at hy
      obtain ⟨zs, hz, rfl⟩ := hy
      simp only [List.length_append] at hl
      simp only [List.map_cons, loopC2, hf x o hg acc (by omega), b_ok]
      rw [loopC2_N hf xs (acc ++ o.map e) zs hz (by simp; omega)]
      simp
theorem wipe_app : ∀ (us vs : List Nat) (r : Env), wipeE r (us ++ vs) = wipeE (wipeE r vs) us
  | [], vs, r => rfl
  | u :: us, vs, r => by simp only [List.cons_append, wipeE, wipe_app us vs r]
theorem wipe_com (us vs : List Nat) (r : Env) : wipeE (wipeE r vs) us = wipeE (wipeE r us) vs := by
  apply List.ext_getElem?
  intro i
  simp only [wipe_get, wipe_len]
  by_cases h1 : i ∈ us <;> by_cases h2 : i ∈ vs <;> by_cases h3 : i < r.length <;> simp [h1, h2, h3]
section
variable {α β δ ι κ : Type} {e e1 : α → D} {e2 : β → D} {e3 : δ → D} {e4 : ι → D} {e5 : κ → D} {Γ Γ1 Γ2 Γ3 Γ' : List K}
variable {T : Nat → Option Fn} {c : Nat → List D → OutC} {μ : Mu}
theorem te_comp2 {Γw Γw1 : List K} {elt it it1 : ME} {cd cd1 : Option ME} {t t1 : Tg} {f : α → List β} {f1 : ι → List κ} {di : HL Γ → Option α} {wk : HL Γ → HL Γw} {b : β → HL Γw → Option (HL Γ1)} {dc : HL Γ1 → Option Bool}
    {di1 : HL Γ1 → Option ι} {wk1 : HL Γ1 → HL Γw1} {b1 : κ → HL Γw1 → Option (HL Γ2)} {dc1 : HL Γ2 → Option Bool} {de : HL Γ2 → Option δ}
    (hf : Its e1 e2 f) (hi : TE T c μ Γ it e1 di) (hk : okK Γ (tgS t ++ tgS t1) = true) (hw : Wk Γ Γw (tgS t ++ tgS t1) wk) (ht : TG Γw t e2 Γ1 b) (hc : TC T c μ Γ1 cd dc)
    (hf1 : Its e4 e5 f1) (hi1 : TE T c μ Γ1 it1 e4 di1) (hw1 : Wk Γ1 Γw1 (tgS t1) wk1) (ht1 : TG Γw1 t1 e5 Γ2 b1) (hc1 : TC T c μ Γ2 cd1 dc1) (he : TE T c μ Γ2 elt e3 de) :
    TE T c μ Γ (.comp2 elt t it cd t1 it1 cd1) (eL e3) (fun γ => (di γ).bind fun x => (flatO (fun y => (b y (wk γ)).bind fun γ1 => (dc γ1).bind fun k => if k then (di1 γ1).bind fun z => cmpN (fun u => (b1 u (wk1 γ1)).bind fun γ2 => (dc1 γ2).bind fun k1 => if k1 then (de γ2).bind fun o => some (some o) else some none) (f1 z) else some []) (f x)).bind limO) := ⟨fun γ r v hr hv => by
  obtain ⟨x, hx, hv⟩ := bs hv
  obtain ⟨ys, hy, hv⟩ := bs hv
  unfold limO at hv
  split at hv
  · rename_i hl
    cases hv
    have hkw := ok_W hr μ hk
    refine ⟨?_⟩
    simp only [evE, (hi.h γ r x hr hx).h, b_ok, hf.h x, lift_some, hkw, if_true]
    rw [loopC2_N (h := e2) (e := e3) (fun n zs hg acc hla => ?_) (f x) [] v hy (by simpa using hl)]
    · simp only [noX_okk, b_ok, List.nil_append]
      rw [unwipe_wipe]; rfl
    · obtain ⟨γ1, h1, hg⟩ := bs hg
      obtain ⟨k, h2, hg⟩ := bs hg
      obtain ⟨r1, a1, a2⟩ := ht.h n (wk γ) γ1 _ (hw.h γ r hr) h1
      have a3 : asgG t (e2 n) (mu μ (wipeE r (tgS t ++ tgS t1))) = some (mu μ r1) := by
        have := asgG_map (mu_val μ) t (e2 n) (wipeE r (tgS t ++ tgS t1))
        rw [a1] at this
        exact this
      have hwr : wipeE r1 (tgS t ++ tgS t1) = wipeE r (tgS t ++ tgS t1) := by
        rw [wipe_app, wipe_com, wipe_asg a1, wipe_com, ← wipe_app, wipe_wipe]
      rw [wipe_mu, a3]
      simp only [hc.h γ1 r1 k a2 h2, b_ok]
      cases k with
      | false =>
        rw [if_neg Bool.false_ne_true] at hg
        cases hg
        simp only [Bool.false_eq_true, if_false, Out.wiped, b_ok, List.map_nil, List.append_nil]
        rw [wipe_mu, hwr]
      | true =>
        rw [if_pos rfl] at hg
        obtain ⟨z, hz, hg⟩ := bs hg
        simp only [if_true, (hi1.h γ1 r1 z a2 hz).h, b_ok, hf1.h z, lift_some]
        rw [loopC_N (h := e5) (e := e3) (fun u o hu => ?_) (f1 z) acc zs hg hla]
        · simp only [Out.wiped, b_ok]
          rw [wipe_app, wipe_wipe, ← wipe_app, wipe_mu, hwr]
        · obtain ⟨γ2, p1, hu⟩ := bs hu
          obtain ⟨k1, p2, hu⟩ := bs hu
          obtain ⟨r2, s1, s2⟩ := ht1.h u (wk1 γ1) γ2 _ (hw1.h γ1 r1 a2) p1
          have s3 : asgG t1 (e5 u) (mu μ (wipeE r1 (tgS t1))) = some (mu μ r2) := by
            have := asgG_map (mu_val μ) t1 (e5 u) (wipeE r1 (tgS t1))
            rw [s1] at this
            exact this
          rw [wipe_mu]
          refine cmp_step s3 (hc1.h γ2 r2 k1 s2 p2) (fun hk' => ?_) (fun hk' => ?_) ?_
          · subst hk'
            rw [if_pos rfl] at hu
            obtain ⟨o', ho, hu⟩ := bs hu
            cases hu
            exact ⟨_, rfl, he.h γ2 r2 o' s2 ho⟩
          · subst hk'
            rw [if_neg Bool.false_ne_true] at hu
            cases hu
            rfl
          · rw [wipe_mu, wipe_asg s1, wipe_wipe]
  · cases hv⟩
end
end Cw.J
end

section
namespace Cw.J
open PySem
section
variable {T : Nat → Option Fn} {c : Nat → List D → OutC} {μ : Mu} {α β δ R : Type} {e e1 : α → D} {e2 : β → D} {e3 : δ → D} {Γ Γ1 Γ2 Γ3 Γ' Γl Γb : List K} {kk : Nat} {md : Md} {m : ME} {ss : List MS}
structure TM (T : Nat → Option Fn) (c : Nat → List D → OutC) (Γ : List K) (kk : Nat) (md : Md) (m : ME) {α : Type} (e : α → D) (Γ' : List K) {R : Type} (d : HL Γ → (α → HL Γ' → Option R) → Option R) : Prop where
  h : ∀ γ r k v, Rel Γ γ r → d γ k = some v → ∃ x γ' r', evM T c kk md m r = .ok (e x) r' ∧ Rel Γ' γ' r' ∧ k x γ' = some v
structure TT (T : Nat → Option Fn) (c : Nat → List D → OutC) (Γ : List K) (md : Md) (m : ME) (Γ' : List K) {R : Type} (d : HL Γ → (Bool → HL Γ' → Option R) → Option R) : Prop where
  h : ∀ γ r k v, Rel Γ γ r → d γ k = some v → ∃ x γ' r', evT T c md m r = .ok x r' ∧ Rel Γ' γ' r' ∧ k x γ' = some v
structure TI (T : Nat → Option Fn) (c : Nat → List D → OutC) (Γ : List K) (md : Md) (m : ME) {α : Type} (e : α → D) (Γ' : List K) {R : Type} (d : HL Γ → (List α → HL Γ' → Option R) → Option R) : Prop where
  h : ∀ γ r k v, Rel Γ γ r → d γ k = some v → ∃ xs γ' r', evI T c md m r = .ok (xs.map e) r' ∧ Rel Γ' γ' r' ∧ k xs γ' = some v
/-- lists that become values -/
structure Fz (Γ : List K) (vs : List Nat) (Γ' : List K) (wk : HL Γ → HL Γ') : Prop where
  h : ∀ γ r, Rel Γ γ r → Rel Γ' (wk γ) (frz r vs)
theorem fz_nil : Fz Γ [] Γ (fun γ => γ) := ⟨fun γ r h => h⟩
theorem fz_O {i : Nat} {vs : List Nat} {g : HL Γ → α} {up : α → HL Γ → HL Γ1} {wk : HL Γ1 → HL Γ2} (hl : LkO Γ i e g) (hu : Up Γ Γ1 i e up) (h : Fz Γ1 vs Γ2 wk) : Fz Γ (i :: vs) Γ2 (fun γ => wk (up (g γ) γ)) := ⟨fun γ r hr => by
  show Rel Γ2 _ (match r[i]? with
    | some (.own _ d) => frz (r.set i (.val d)) vs
    | _ => frz r vs)
  rw [hl.h γ r hr]
  exact h.h _ _ (hu.h _ _ _ hr)⟩
theorem fz_M {i : Nat} {vs : List Nat} {g : HL Γ → α} {wk : HL Γ → HL Γ2} (hl : LkM Γ i e g) (h : Fz Γ vs Γ2 wk) : Fz Γ (i :: vs) Γ2 wk := ⟨fun γ r hr => by
  show Rel Γ2 _ (match r[i]? with
    | some (.own _ d) => frz (r.set i (.val d)) vs
    | _ => frz r vs)
  rw [hl.h γ r hr]
  exact h.h _ _ hr⟩
theorem fz_V {i : Nat} {vs : List Nat} {g : HL Γ → α} {wk : HL Γ → HL Γ2} (hl : Lk Γ i e g) (h : Fz Γ vs Γ2 wk) : Fz Γ (i :: vs) Γ2 wk := ⟨fun γ r hr => by
  show Rel Γ2 _ (match r[i]? with
    | some (.own _ d) => frz (r.set i (.val d)) vs
    | _ => frz r vs)
  rw [hl.h γ r hr]
  exact h.h _ _ hr⟩
theorem tm_keep {d : HL Γ → Option α} (h : TE T c .p Γ m e d) : TM (R := R) T c Γ kk (.keep []) m e Γ (fun γ k => (d γ).bind fun x => k x γ) := ⟨fun γ r k v hr hv => by
  obtain ⟨x, hx, hv⟩ := bs hv
  exact ⟨x, γ, r, m_keep (h.h γ r x hr hx), hr, hv⟩⟩
theorem tm_keepF {is : List Nat} {wk : HL Γ → HL Γ'} {d : HL Γ' → Option α} (hf : Fz Γ is Γ' wk) (h : TE T c .p Γ' m e d) : TM (R := R) T c Γ kk (.keep is) m e Γ' (fun γ k => (d (wk γ)).bind fun x => k x (wk γ)) := ⟨fun γ r k v hr hv => by
  obtain ⟨x, hx, hv⟩ := bs hv
  have hr' := hf.h γ r hr
  refine ⟨x, wk γ, frz r is, ?_, hr', hv⟩
  show (evE T c m (prtA (frz r is))).as (frz r is) = _
  rw [show evE T c m (prtA (frz r is)) = _ from (h.h _ _ x hr' hx).h]
  rfl⟩
theorem tm_look {d : HL Γ → Option α} (hi : ∀ x, (imm (e x) || (kk == 1 && shal (e x))) = true) (h : TE T c .f Γ m e d) : TM (R := R) T c Γ kk .look m e Γ (fun γ k => (d γ).bind fun x => k x γ) := ⟨fun γ r k v hr hv => by
  obtain ⟨x, hx, hv⟩ := bs hv
  exact ⟨x, γ, r, m_look (h.h γ r x hr hx) (hi x), hr, hv⟩⟩
theorem lk_imm (h : ImmE e) (kk : Nat) (x : α) : (imm (e x) || (kk == 1 && shal (e x))) = true := by rw [h x]; rfl
theorem lk_shal (h : ImmE e) (x : List α) : (imm (eL e x) || (1 == 1 && shal (eL e x))) = true := by rw [sh_L h x]; simp
theorem tt_keep {d : HL Γ → Option Bool} (h : TE T c .p Γ m eB d) : TT (R := R) T c Γ (.keep []) m Γ (fun γ k => (d γ).bind fun x => k x γ) := ⟨fun γ r k v hr hv => by
  obtain ⟨x, hx, hv⟩ := bs hv
  exact ⟨x, γ, r, t_keep (h.h γ r x hr hx) (t_b x), hr, hv⟩⟩
theorem tt_keepT {f : α → Bool} {d : HL Γ → Option α} (ht : ∀ x, Trth (e x) (f x)) (h : TE T c .p Γ m e d) : TT (R := R) T c Γ (.keep []) m Γ (fun γ k => (d γ).bind fun x => k (f x) γ) := ⟨fun γ r k v hr hv => by
  obtain ⟨x, hx, hv⟩ := bs hv
  exact ⟨f x, γ, r, t_keep (h.h γ r x hr hx) (ht x), hr, hv⟩⟩
theorem tt_look {d : HL Γ → Option Bool} (h : TE T c .f Γ m eB d) : TT (R := R) T c Γ .look m Γ (fun γ k => (d γ).bind fun x => k x γ) := ⟨fun γ r k v hr hv => by
  obtain ⟨x, hx, hv⟩ := bs hv
  exact ⟨x, γ, r, t_look (h.h γ r x hr hx) (t_b x), hr, hv⟩⟩
theorem tt_lookT {f : α → Bool} {d : HL Γ → Option α} (ht : ∀ x, Trth (e x) (f x)) (h : TE T c .f Γ m e d) : TT (R := R) T c Γ .look m Γ (fun γ k => (d γ).bind fun x => k (f x) γ) := ⟨fun γ r k v hr hv => by
  obtain ⟨x, hx, hv⟩ := bs hv
  exact ⟨f x, γ, r, t_look (h.h γ r x hr hx) (ht x), hr, hv⟩⟩
theorem ti_keep {is : List Nat} {wk : HL Γ → HL Γ'} {f : α → List β} {d : HL Γ' → Option α} (hs : Its e1 e2 f) (hf : Fz Γ is Γ' wk) (h : TE T c .p Γ' m e1 d) : TI (R := R) T c Γ (.keep is) m e2 Γ' (fun γ k => (d (wk γ)).bind fun x => k (f x) (wk γ)) := ⟨fun γ r k v hr hv => by
  obtain ⟨x, hx, hv⟩ := bs hv
  have hr' := hf.h γ r hr
  refine ⟨f x, wk γ, frz r is, ?_, hr', hv⟩
  show ((evE T c m (prtA (frz r is))).bind fun x r1 => lift (itemsD x) r1).as (frz r is) = _
  rw [show evE T c m (prtA (frz r is)) = _ from (h.h _ _ x hr' hx).h, b_ok, hs.h]
  rfl⟩
theorem ti_look {f : α → List β} {d : HL Γ → Option α} (hs : Its e1 e2 f) (h : TE T c .f Γ m e1 d) : TI (R := R) T c Γ .look m e2 Γ (fun γ k => (d γ).bind fun x => k (f x) γ) := ⟨fun γ r k v hr hv => by
  obtain ⟨x, hx, hv⟩ := bs hv
  refine ⟨f x, γ, r, ?_, hr, hv⟩
  show ((evE T c m (frzA r)).bind fun x r1 => lift (itemsD x) r1).as r = _
  rw [show evE T c m (frzA r) = _ from (h.h _ _ x hr hx).h, b_ok, hs.h]
  rfl⟩
structure TS (T : Nat → Option Fn) (c : Nat → List D → OutC) (Γ : List K) (ss : List MS) {R : Type} (w : HL Γ → Option R) (P : R → Flow → Env → Prop) : Prop where
  h : ∀ γ r v, Rel Γ γ r → w γ = some v → Run T c r ss (P v)
variable {P : R → Flow → Env → Prop} {w : HL Γ2 → Option R}
theorem ts_asgV {i : Nat} {d : HL Γ → (α → HL Γ1 → Option R) → Option R} {up : α → HL Γ1 → HL Γ2} (hm : TM T c Γ kk md m e Γ1 d) (hk : ∀ x, (kk == 1 && isMut (e x)) = false) (hu : Up Γ1 Γ2 i e up) (hs : TS T c Γ2 ss w P) : TS T c Γ (.asg i kk md m :: ss) (fun γ => d γ fun x γ1 => w (up x γ1)) P := ⟨fun γ r v hr hv => by
  obtain ⟨x, γ', r', h1, h2, h3⟩ := hm.h γ r _ v hr hv
  have q := s_asg (i := i) h1
  rw [hk x] at q
  exact run_nx q (hs.h _ _ v (hu.h x γ' r' h2) h3)⟩
theorem ts_asgO {i : Nat} {d : HL Γ → (α → HL Γ1 → Option R) → Option R} {up : α → HL Γ1 → HL Γ2} (hm : TM T c Γ 1 md m e Γ1 d) (hk : ∀ x, isMut (e x) = true) (hu : UpO Γ1 Γ2 i e up) (hs : TS T c Γ2 ss w P) : TS T c Γ (.asg i 1 md m :: ss) (fun γ => d γ fun x γ1 => w (up x γ1)) P := ⟨fun γ r v hr hv => by
  obtain ⟨x, γ', r', h1, h2, h3⟩ := hm.h γ r _ v hr hv
  have q := s_asg (i := i) h1
  rw [hk x] at q
  exact run_nx q (hs.h _ _ v (hu.h x γ' r' h2) h3)⟩
theorem nk0 (e : α → D) (x : α) : ((0 : Nat) == 1 && isMut (e x)) = false := rfl
theorem ts_asgT {is : List Nat} {d : HL Γ → (α → HL Γ1 → Option R) → Option R} {b : α → HL Γ1 → Option (HL Γ2)} (hm : TM T c Γ 0 md m e Γ1 d) (ht : TG Γ1 (.tup (is.map .nm)) e Γ2 b) (hs : TS T c Γ2 ss w P) : TS T c Γ (.asgT is md m :: ss) (fun γ => d γ fun x γ1 => (b x γ1).bind fun γ2 => w γ2) P := ⟨fun γ r v hr hv => by
  obtain ⟨x, γ', r', h1, h2, h3⟩ := hm.h γ r _ v hr hv
  obtain ⟨γ2, h4, h5⟩ := bs h3
  obtain ⟨r2, h6, h7⟩ := ht.h x γ' γ2 r' h2 h4
  refine run_nx (r1 := r2) ?_ (hs.h _ _ v h7 h5)
  simp only [evS, h1, b_ok, h6, lift_some]⟩
/-- a list in its slot that may be changed -/
structure UpM (Γ : List K) (i : Nat) {α : Type} (e : α → D) (g : HL Γ → α) (up : α → HL Γ → HL Γ) : Prop where
  h : ∀ γ r, Rel Γ γ r → getM r i = some (e (g γ)) ∧ ∀ x, Rel Γ (up x γ) (putM r i (e x))
theorem um_O {i : Nat} {g : HL Γ → α} {up : α → HL Γ → HL Γ} (hl : LkO Γ i e g) (hu : UpO Γ Γ i e up) : UpM Γ i e g up := ⟨fun γ r hr => by
  have q := hl.h γ r hr
  refine ⟨by simp only [getM, q], fun x => ?_⟩
  have : putM r i (e x) = r.set i (.own 1 (e x)) := by simp only [putM, q]
  rw [this]
  exact hu.h x γ r hr⟩
structure UpMt (Γ Γ' : List K) (i : Nat) {α : Type} (e : α → D) (up : α → HL Γ → HL Γ') : Prop where
  h : ∀ x γ r, Rel Γ γ r → Rel Γ' (up x γ) (r.set i (.mut (e x)))
theorem up_M (i : Nat) (e : α → D) : UpMt Γ (updK Γ i (kM e)) i e (fun x γ => updH Γ i (kM e) x γ) := ⟨fun x γ r h => ru i (kM e) x γ r _ h rfl⟩
theorem um_M {i : Nat} {g : HL Γ → α} {up : α → HL Γ → HL Γ} (hl : LkM Γ i e g) (hu : UpMt Γ Γ i e up) : UpM Γ i e g up := ⟨fun γ r hr => by
  have q := hl.h γ r hr
  refine ⟨by simp only [getM, q], fun x => ?_⟩
  have : putM r i (e x) = r.set i (.mut (e x)) := by simp only [putM, q]
  rw [this]
  exact hu.h x γ r hr⟩
theorem ts_set {w : HL Γ1 → Option R} {i : Nat} {kx : ME} {d : HL Γ → (β → HL Γ1 → Option R) → Option R} {g : HL Γ1 → α} {up : α → HL Γ1 → HL Γ1} {dk : HL Γ1 → Option δ} {f : α → δ → β → Option α} (hs : ∀ x i v y, f x i v = some y → setD (e x) (e3 i) (e2 v) = some (e y)) (hm : TM T c Γ 0 md m e2 Γ1 d) (hu : UpM Γ1 i e g up) (hx : TE T c .p Γ1 kx e3 dk) (hss : TS T c Γ1 ss w P) : TS T c Γ (.set i kx md m :: ss) (fun γ => d γ fun v γ1 => (dk γ1).bind fun k => (f (g γ1) k v).bind fun y => w (up y γ1)) P := ⟨fun γ r v hr hv => by
  obtain ⟨x, γ', r', h1, h2, h3⟩ := hm.h γ r _ v hr hv
  obtain ⟨k, hk, h3⟩ := bs h3
  obtain ⟨y, hy, h3⟩ := bs h3
  obtain ⟨u1, u2⟩ := hu.h γ' r' h2
  exact run_nx (s_set h1 u1 (hx.h γ' r' k h2 hk) (hs _ _ _ _ hy)) (hss.h _ _ v (u2 y) h3)⟩
theorem ts_app {w : HL Γ1 → Option R} {i : Nat} {d : HL Γ → (α → HL Γ1 → Option R) → Option R} {g0 : HL Γ → β} {up0 : β → HL Γ → HL Γ} {g : HL Γ1 → List α} {up : List α → HL Γ1 → HL Γ1} (hu0 : UpM Γ i e2 g0 up0) (hm : TM T c Γ 0 md m e Γ1 d) (hu : UpM Γ1 i (eL e) g up) (hss : TS T c Γ1 ss w P) : TS T c Γ (.app i md m :: ss) (fun γ => d γ fun v γ1 => (appO (g γ1) v).bind fun y => w (up y γ1)) P := ⟨fun γ r v hr hv => by
  obtain ⟨x, γ', r', h1, h2, h3⟩ := hm.h γ r _ v hr hv
  obtain ⟨y, hy, h3⟩ := bs h3
  obtain ⟨u1, u2⟩ := hu.h γ' r' h2
  exact run_nx (s_app (hu0.h γ r hr).1 h1 u1 (app_L hy)) (hss.h _ _ v (u2 y) h3)⟩
theorem ts_aug {i : Nat} {op : BOp} {f : Int → Int → Int} {d : HL Γ → (Int → HL Γ1 → Option R) → Option R} {g : HL Γ → Int} {up : Int → HL Γ1 → HL Γ2} (ho : ∀ x y, inplD op (.int x) (.int y) = some (.int (f x y))) (hl : Lk Γ i eI g) (hm : TM T c Γ 0 md m eI Γ1 d) (hu : Up Γ1 Γ2 i eI up) (hs : TS T c Γ2 ss w P) : TS T c Γ (.aug i op md m :: ss) (fun γ => d γ fun y γ1 => w (up (f (g γ) y) γ1)) P := ⟨fun γ r v hr hv => by
  obtain ⟨x, γ', r', h1, h2, h3⟩ := hm.h γ r _ v hr hv
  refine run_nx (r1 := r'.set i (.val (.int (f (g γ) x)))) ?_ (hs.h _ _ v (hu.h _ _ _ h2) h3)
  have q := hl.h γ r hr
  have q2 : getV r i = some (.int (g γ)) := by simp only [getV, q]
  simp only [evS, q2, lift_some, b_ok, h1, ho]⟩
theorem ag_add (x y : Int) : inplD .add (.int x) (.int y) = some (.int (x + y)) := rfl
theorem ag_sub (x y : Int) : inplD .sub (.int x) (.int y) = some (.int (x - y)) := rfl
theorem ts_exp {w : HL Γ1 → Option R} {d : HL Γ → (α → HL Γ1 → Option R) → Option R} (hm : TM T c Γ 0 md m e Γ1 d) (hs : TS T c Γ1 ss w P) : TS T c Γ (.exp md m :: ss) (fun γ => d γ fun _ γ1 => w γ1) P := ⟨fun γ r v hr hv => by
  obtain ⟨x, γ', r', h1, h2, h3⟩ := hm.h γ r _ v hr hv
  exact run_nx (s_exp h1) (hs.h _ _ v h2 h3)⟩
theorem ts_if {a b : List MS} {w1 w2 : HL Γ1 → Option R} {d : HL Γ → (Bool → HL Γ1 → Option R) → Option R} (ht : TT T c Γ md m Γ1 d) (ha : TS T c Γ1 (a ++ ss) w1 P) (hb : TS T c Γ1 (b ++ ss) w2 P) : TS T c Γ (.ife md m a b :: ss) (fun γ => d γ fun k γ1 => if k then w1 γ1 else w2 γ1) P := ⟨fun γ r v hr hv => by
  obtain ⟨k, γ', r', h1, h2, h3⟩ := ht.h γ r _ v hr hv
  refine run_if h1 (fun hk => ?_) (fun hk => ?_)
  · subst hk
    rw [if_pos rfl] at h3
    exact ha.h _ _ v h2 h3
  · subst hk
    rw [if_neg Bool.false_ne_true] at h3
    exact hb.h _ _ v h2 h3⟩
/-- a value given back -/
structure Ri (Γ : List K) (kk : Nat) {α : Type} (e : α → D) {R : Type} (P : R → Flow → Env → Prop) (inj : α → HL Γ → R) : Prop where
  h : ∀ x γ r, Rel Γ γ r → P (inj x γ) (.ret kk (e x)) r
/-- a block's end -/
structure En (Γ : List K) (fl : Flow) {R : Type} (P : R → Flow → Env → Prop) (inj : HL Γ → R) : Prop where
  h : ∀ γ r, Rel Γ γ r → P (inj γ) fl r
theorem ts_ret {d : HL Γ → (α → HL Γ1 → Option R) → Option R} {inj : α → HL Γ1 → R} (hm : TM T c Γ kk md m e Γ1 d) (hi : Ri Γ1 kk e P inj) : TS T c Γ (.ret kk md m :: ss) (fun γ => d γ fun x γ1 => some (inj x γ1)) P := ⟨fun γ r v hr hv => by
  obtain ⟨x, γ', r', h1, h2, h3⟩ := hm.h γ r _ v hr hv
  cases h3
  exact run_ret (s_ret h1) (hi.h x γ' r' h2)⟩
theorem ts_retV {i : Nat} {g : HL Γ → α} {inj : α → HL Γ → R} (hl : Lk Γ i e g) (hi : Ri Γ 0 e P inj) : TS T c Γ (.retv i :: ss) (fun γ => some (inj (g γ) γ)) P := ⟨fun γ r v hr hv => by
  cases hv
  exact run_ret (s_retv (hl.h γ r hr)) (hi.h _ γ r hr)⟩
theorem ts_retO {i : Nat} {g : HL Γ → α} {inj : α → HL Γ → R} (hl : LkO Γ i e g) (hi : Ri Γ 1 e P inj) : TS T c Γ (.retv i :: ss) (fun γ => some (inj (g γ) γ)) P := ⟨fun γ r v hr hv => by
  cases hv
  exact run_ret (s_retO (hl.h γ r hr)) (hi.h _ γ r hr)⟩
theorem ts_brk {inj : HL Γ → R} (h : En Γ .brk P inj) : TS T c Γ (.brk :: ss) (fun γ => some (inj γ)) P := ⟨fun γ r v hr hv => by
  cases hv
  exact run_brk (h.h γ r hr)⟩
theorem ts_cnt {inj : HL Γ → R} (h : En Γ .cnt P inj) : TS T c Γ (.cnt :: ss) (fun γ => some (inj γ)) P := ⟨fun γ r v hr hv => by
  cases hv
  exact run_cnt (h.h γ r hr)⟩
theorem ts_nil {inj : HL Γ → R} (h : En Γ .nx P inj) : TS T c Γ [] (fun γ => some (inj γ)) P := ⟨fun γ r v hr hv => by
  cases hv
  exact run_nil (h.h γ r hr)⟩
theorem ts_pas {w : HL Γ → Option R} (h : TS T c Γ ss w P) : TS T c Γ (.pas :: ss) w P := ⟨fun γ r v hr hv => run_nx rfl (h.h γ r v hr hv)⟩
theorem ts_bot : TS T c Γ (.bot :: ss) (fun _ => none) P := ⟨fun γ r v hr hv => by cases hv⟩
structure WnF (Γ Γ' : List K) (wk : HL Γ → HL Γ') : Prop where
  h : ∀ n γ r, RelF Γ n γ r → RelF Γ' n (wk γ) r
theorem wn_id : WnF Γ Γ (fun γ => γ) := ⟨fun n γ r h => h⟩
theorem wn_s {k : K} {wk : HL Γ → HL Γ'} (h : WnF Γ Γ' wk) : WnF (k :: Γ) (k :: Γ') (fun γ => (γ.1, wk γ.2)) := ⟨fun n γ r hr => ⟨hr.1, h.h _ _ _ hr.2⟩⟩
theorem wn_jV {e : α → D} {wk : HL Γ → HL Γ'} (h : WnF Γ Γ' wk) : WnF (kV e :: Γ) (kJ :: Γ') (fun γ => ((), wk γ.2)) := ⟨fun n γ r hr => ⟨.inr ⟨_, hr.1⟩, h.h _ _ _ hr.2⟩⟩
theorem wn_jN {wk : HL Γ → HL Γ'} (h : WnF Γ Γ' wk) : WnF (kN :: Γ) (kJ :: Γ') (fun γ => ((), wk γ.2)) := ⟨fun n γ r hr => ⟨.inl hr.1, h.h _ _ _ hr.2⟩⟩
theorem wn_xV {e : α → D} {wk : HL Γ → HL Γ'} (h : WnF Γ Γ' wk) : WnF (kV e :: Γ) (kX :: Γ') (fun γ => ((), wk γ.2)) := ⟨fun n γ r hr => ⟨.inr (.inl ⟨_, hr.1⟩), h.h _ _ _ hr.2⟩⟩
theorem wn_xN {wk : HL Γ → HL Γ'} (h : WnF Γ Γ' wk) : WnF (kN :: Γ) (kX :: Γ') (fun γ => ((), wk γ.2)) := ⟨fun n γ r hr => ⟨.inl hr.1, h.h _ _ _ hr.2⟩⟩
theorem wn_xJ {wk : HL Γ → HL Γ'} (h : WnF Γ Γ' wk) : WnF (kJ :: Γ) (kX :: Γ') (fun γ => ((), wk γ.2)) := ⟨fun n γ r hr => ⟨by
  have q : r[n]? = some .non ∨ ∃ d, r[n]? = some (.val d) := hr.1
  rcases q with q | q
  · exact .inl q
  · exact .inr (.inl q), h.h _ _ _ hr.2⟩⟩
theorem wn_xO {e : α → D} {wk : HL Γ → HL Γ'} (hi : ImmE e) (h : WnF Γ Γ' wk) : WnF (kO (eL e) :: Γ) (kX :: Γ') (fun γ => ((), wk γ.2)) := ⟨fun n γ r hr => ⟨.inr (.inr ⟨_, hr.1, sh_L hi _⟩), h.h _ _ _ hr.2⟩⟩
theorem wn_c {co : α → β} {wk : HL Γ → HL Γ'} (hc : ∀ x, e1 x = e2 (co x)) (h : WnF Γ Γ' wk) : WnF (kV e1 :: Γ) (kV e2 :: Γ') (fun γ => (co γ.1, wk γ.2)) := ⟨fun n γ r hr => ⟨by
  show _ = some (Slot.val (e2 (co γ.1)))
  rw [← hc]; exact hr.1, h.h _ _ _ hr.2⟩⟩
/-- a function's -/
def PF (fn : Fn) {α : Type} (e : α → D) (v : α) (fl : Flow) (r : Env) : Prop := finE fn (.ok fl r) = .ok (e v) []
theorem ri_fn {fn : Fn} (hio : fn.io = []) (hf : ∀ x, (fn.fresh == 0 || kk == 1 || imm (e x)) = true) : Ri Γ kk e (PF fn e) (fun x _ => x) := ⟨fun x γ r hr => by
  simp only [PF, finE, hf x, if_true, hio, outsE]⟩
theorem ri_co {fn : Fn} (co : α → β) (hc : ∀ x, e1 x = e2 (co x)) (hio : fn.io = []) (hf : ∀ x, (fn.fresh == 0 || kk == 1 || imm (e1 x)) = true) : Ri Γ kk e1 (PF fn e2) (fun x _ => co x) := ⟨fun x γ r hr => by
  have q := hf x
  rw [hc x] at q
  simp only [PF, finE, hio, outsE, hc x, q, if_true]⟩
theorem en_fn {fn : Fn} (x : α) (hio : fn.io = []) (he : e x = .none) : En Γ .nx (PF fn e) (fun _ => x) := ⟨fun γ r hr => by
  simp only [PF, finE, hio, outsE, he]⟩
/-- a loop's body, left or not -/
def PG (Γl : List K) {R : Type} (P : R → Flow → Env → Prop) : Fl (HL Γl) R → Flow → Env → Prop
  | .nx s, fl, r => (fl = .nx ∨ fl = .cnt) ∧ Rel Γl s r
  | .brk s, fl, r => fl = .brk ∧ Rel Γl s r
  | .ret v, fl, r => (∃ k d, fl = .ret k d) ∧ P v fl r
/-- a loop's body that is never left -/
def PL (Γl : List K) (s : HL Γl) (fl : Flow) (r : Env) : Prop := (fl = .nx ∨ fl = .cnt) ∧ Rel Γl s r
/-- a branch -/
def PJ (Γ' : List K) {R : Type} (P : R → Flow → Env → Prop) : HL Γ' ⊕ R → Flow → Env → Prop
  | .inl s, fl, r => fl = .nx ∧ Rel Γ' s r
  | .inr v, fl, r => fl ≠ .nx ∧ P v fl r
def PK (Γ' : List K) (s : HL Γ') (fl : Flow) (r : Env) : Prop := fl = .nx ∧ Rel Γ' s r
theorem ri_loop {inj : α → HL Γ → R} (h : Ri Γ kk e P inj) : Ri Γ kk e (PG Γl P) (fun x γ => .ret (inj x γ)) := ⟨fun x γ r hr => ⟨⟨_, _, rfl⟩, h.h x γ r hr⟩⟩
theorem ri_join {inj : α → HL Γ → R} (h : Ri Γ kk e P inj) : Ri Γ kk e (PJ Γ' P) (fun x γ => .inr (inj x γ)) := ⟨fun x γ r hr => ⟨(fun h => by cases h), h.h x γ r hr⟩⟩
theorem en_gnx {wk : HL Γ → HL Γl} (h : WnF Γ Γl wk) : En Γ .nx (PG Γl P) (fun γ => .nx (wk γ)) := ⟨fun γ r hr => ⟨.inl rfl, h.h 0 γ r hr⟩⟩
theorem en_gcnt {wk : HL Γ → HL Γl} (h : WnF Γ Γl wk) : En Γ .cnt (PG Γl P) (fun γ => .nx (wk γ)) := ⟨fun γ r hr => ⟨.inr rfl, h.h 0 γ r hr⟩⟩
theorem en_gbrk {wk : HL Γ → HL Γl} (h : WnF Γ Γl wk) : En Γ .brk (PG Γl P) (fun γ => .brk (wk γ)) := ⟨fun γ r hr => ⟨rfl, h.h 0 γ r hr⟩⟩
theorem en_lnx {wk : HL Γ → HL Γl} (h : WnF Γ Γl wk) : En Γ .nx (PL Γl) (fun γ => wk γ) := ⟨fun γ r hr => ⟨.inl rfl, h.h 0 γ r hr⟩⟩
theorem en_lcnt {wk : HL Γ → HL Γl} (h : WnF Γ Γl wk) : En Γ .cnt (PL Γl) (fun γ => wk γ) := ⟨fun γ r hr => ⟨.inr rfl, h.h 0 γ r hr⟩⟩
theorem en_jnx {wk : HL Γ → HL Γ'} (h : WnF Γ Γ' wk) : En Γ .nx (PJ Γ' P) (fun γ => .inl (wk γ)) := ⟨fun γ r hr => ⟨rfl, h.h 0 γ r hr⟩⟩
theorem en_jx {fl : Flow} {inj : HL Γ → R} (hne : fl ≠ .nx) (h : En Γ fl P inj) : En Γ fl (PJ Γ' P) (fun γ => .inr (inj γ)) := ⟨fun γ r hr => ⟨hne, h.h γ r hr⟩⟩
theorem en_knx {wk : HL Γ → HL Γ'} (h : WnF Γ Γ' wk) : En Γ .nx (PK Γ') (fun γ => wk γ) := ⟨fun γ r hr => ⟨rfl, h.h 0 γ r hr⟩⟩
theorem brk_ne : Flow.brk ≠ Flow.nx := fun h => by cases h
theorem cnt_ne : Flow.cnt ≠ Flow.nx := fun h => by cases h
end
end Cw.J
end

section
namespace Cw.J
open PySem
section
variable {T : Nat → Option Fn} {c : Nat → List D → OutC} {r r' r1 : Env} {ss a b : List MS} {s : MS} {P : Flow → Env → Prop} {k : Bool} {md : Md} {m : ME} {fl : Flow}
theorem ss_stop (h : evS T c s r = .ok fl r') (hn : fl ≠ .nx) : evSs T c (s :: ss) r = .ok fl r' := by
  simp only [evSs, h, b_ok]
theorem run_stop (h : evS T c s r = .ok fl r') (hn : fl ≠ .nx) (hp : P fl r') : Run T c r (s :: ss) P := ⟨fl, r', ss_stop h hn, hp⟩
end
section
variable {T : Nat → Option Fn} {c : Nat → List D → OutC} {μ : Mu} {α β δ R : Type} {e e1 : α → D} {e2 : β → D} {e3 : δ → D} {Γ Γ1 Γ2 Γ3 Γ' Γl Γb : List K} {kk : Nat} {md : Md} {m : ME} {ss : List MS}
variable {P : R → Flow → Env → Prop}
theorem s_ife {a b : List MS} {r r1 : Env} {k : Bool} (h : evT T c md m r = .ok k r1) : evS T c (.ife md m a b) r = evSs T c (if k then a else b) r1 := by
  simp only [evS, h, b_ok]
  cases k <;> rfl
def jn {A B : Type} (o : Option (A ⊕ B)) (f : A → Option B) : Option B := match o with
  | some (.inl s) => f s
  | some (.inr v) => some v
  | none => none
theorem ts_ifJ {a b : List MS} {w1 w2 : HL Γ1 → Option (HL Γ2 ⊕ R)} {w : HL Γ2 → Option R} {d : HL Γ → (Bool → HL Γ1 → Option R) → Option R} (ht : TT T c Γ md m Γ1 d) (ha : TS T c Γ1 a w1 (PJ Γ2 P)) (hb : TS T c Γ1 b w2 (PJ Γ2 P)) (hs : TS T c Γ2 ss w P) : TS T c Γ (.ife md m a b :: ss) (fun γ => d γ fun k γ1 => jn (if k then w1 γ1 else w2 γ1) w) P := ⟨fun γ r v hr hv => by
  obtain ⟨k, γ', r', h1, h2, h3⟩ := ht.h γ r _ v hr hv
  have key : ∀ o, (if k then w1 γ' else w2 γ') = some o → ∃ fl r2, evS T c (.ife md m a b) r = .ok fl r2 ∧ PJ Γ2 P o fl r2 := by
    intro o ho
    rw [s_ife h1]
    cases k with
    | true => exact ha.h γ' r' o h2 ho
    | false => exact hb.h γ' r' o h2 ho
  unfold jn at h3
  split at h3
  · rename_i s q
    obtain ⟨fl, r2, e1, rfl, e2⟩ := key _ q
    exact run_nx e1 (hs.h s r2 v e2 h3)
  · rename_i v' q
    cases h3
    obtain ⟨fl, r2, e1, e2, e3⟩ := key _ q
    exact run_stop e1 e2 e3
  · cases h3⟩
theorem ts_ifK {a b : List MS} {w1 w2 : HL Γ1 → Option (HL Γ2)} {w : HL Γ2 → Option R} {d : HL Γ → (Bool → HL Γ1 → Option R) → Option R} (ht : TT T c Γ md m Γ1 d) (ha : TS T c Γ1 a w1 (PK Γ2)) (hb : TS T c Γ1 b w2 (PK Γ2)) (hs : TS T c Γ2 ss w P) : TS T c Γ (.ife md m a b :: ss) (fun γ => d γ fun k γ1 => (if k then w1 γ1 else w2 γ1).bind fun s => w s) P := ⟨fun γ r v hr hv => by
  obtain ⟨k, γ', r', h1, h2, h3⟩ := ht.h γ r _ v hr hv
  have key : ∀ o, (if k then w1 γ' else w2 γ') = some o → ∃ fl r2, evS T c (.ife md m a b) r = .ok fl r2 ∧ PK Γ2 o fl r2 := by
    intro o ho
    rw [s_ife h1]
    cases k with
    | true => exact ha.h γ' r' o h2 ho
    | false => exact hb.h γ' r' o h2 ho
  obtain ⟨s, q, h3⟩ := bs h3
  obtain ⟨fl, r2, e1, rfl, e2⟩ := key _ q
  exact run_nx e1 (hs.h s r2 v e2 h3)⟩
theorem for_R {f : D → Env → Out Flow} {h : β → D} {g : β → HL Γ → Option (HL Γ)} (hf : ∀ x s s' r, Rel Γ s r → g x s = some s' → ∃ fl r', f (h x) r = .ok fl r' ∧ PL Γ s' fl r') : ∀ (xs : List β) (s s' : HL Γ) (r : Env), Rel Γ s r → forO g xs s = some s' → ∃ r', loopF f (xs.map h) r = .ok .nx r' ∧ Rel Γ s' r'
  | [], s, s', r, hr, e => by cases e; exact ⟨r, rfl, hr⟩
  | x :: xs, s, s', r, hr, e => by
    unfold forO at e
    cases hg : g x s with
    | none => rw [hg] at e; cases e
    | some s1 =>
      rw [hg] at e
      obtain ⟨fl, r1, h1, h2, h3⟩ := hf x s s1 r hr hg
      obtain ⟨r2, h4, h5⟩ := for_R hf xs s1 s' r1 h3 e
      refine ⟨r2, ?_, h5⟩
      rcases h2 with rfl | rfl <;> (simp only [List.map_cons, loopF, h1, b_ok]; exact h4)
/-- how a loop ends -/
def PE (Γl : List K) (P : R → Flow → Env → Prop) : Fl (HL Γl) R → Flow → Env → Prop
  | .nx s, fl, r => fl = .nx ∧ Rel Γl s r
  | .brk s, fl, r => False
  | .ret v, fl, r => (∃ k d, fl = .ret k d) ∧ P v fl r
theorem for_RG {f : D → Env → Out Flow} {h : β → D} {g : β → HL Γ → Option (Fl (HL Γ) R)} (hf : ∀ x s s' r, Rel Γ s r → g x s = some s' → ∃ fl r', f (h x) r = .ok fl r' ∧ PG Γ P s' fl r') : ∀ (xs : List β) (s : HL Γ) (s' : Fl (HL Γ) R) (r : Env), Rel Γ s r → forG g xs s = some s' → ∃ fl r', loopF f (xs.map h) r = .ok fl r' ∧ PE Γ P s' fl r'
  | [], s, s', r, hr, e => by cases e; exact ⟨.nx, r, rfl, rfl, hr⟩
  | x :: xs, s, s', r, hr, e => by
    unfold forG at e
    cases hg : g x s with
    | none => rw [hg] at e; cases e
    | some o =>
      rw [hg] at e
      obtain ⟨fl, r1, h1, h2⟩ := hf x s o r hr hg
      cases o with
      | nx s1 =>
        obtain ⟨h2, h3⟩ := h2
        obtain ⟨fl2, r2, h4, h5⟩ := for_RG hf xs s1 s' r1 h3 e
        refine ⟨fl2, r2, ?_, h5⟩
        rcases h2 with rfl | rfl <;> (simp only [List.map_cons, loopF, h1, b_ok]; exact h4)
      | brk s1 =>
        cases e
        obtain ⟨rfl, h3⟩ := h2
        exact ⟨.nx, r1, by simp only [List.map_cons, loopF, h1, b_ok], rfl, h3⟩
      | ret v =>
        cases e
        obtain ⟨⟨k, d, rfl⟩, h3⟩ := h2
        exact ⟨_, r1, by simp only [List.map_cons, loopF, h1, b_ok], ⟨_, _, rfl⟩, h3⟩
theorem ts_for {it : ME} {t : Tg} {body : List MS} {w : HL Γl → Option R} {d : HL Γ → (List β → HL Γ1 → Option R) → Option R} {wk : HL Γ1 → HL Γl} {bd : β → HL Γl → Option (HL Γb)} {wb : HL Γb → Option (HL Γl)} (hi : TI T c Γ md it e2 Γ1 d) (hw : WnF Γ1 Γl wk) (ht : TG Γl t e2 Γb bd) (hb : TS T c Γb body wb (PL Γl)) (hs : TS T c Γl ss w P) : TS T c Γ (.for t md it body :: ss) (fun γ => d γ fun xs γ1 => (forO (fun x s => (bd x s).bind fun s1 => wb s1) xs (wk γ1)).bind fun s => w s) P := ⟨fun γ r v hr hv => by
  obtain ⟨xs, γ', r', h1, h2, h3⟩ := hi.h γ r _ v hr hv
  obtain ⟨s, h4, h5⟩ := bs h3
  obtain ⟨r2, h6, h7⟩ := for_R (f := fun y rr => match asgG t y rr with
        | none => .bad
        | some r2 => evSs T c body r2) (h := e2) (fun x s s' r hr hg => by
    obtain ⟨s1, g1, g2⟩ := bs hg
    obtain ⟨r1, a1, a2⟩ := ht.h x s s1 r hr g1
    obtain ⟨fl, r2, b1, b2⟩ := hb.h s1 r1 s' a2 g2
    exact ⟨fl, r2, by rw [a1]; exact b1, b2⟩) xs _ s r' (hw.h 0 _ _ h2) h4
  exact run_nx (s_for h1 h6) (hs.h s r2 v h7 h5)⟩
def en {A B : Type} (o : Option (Fl A B)) (f : A → Option B) : Option B := match o with
  | some (.nx s) => f s
  | some (.ret v) => some v
  | _ => none
theorem ts_forG {it : ME} {t : Tg} {body : List MS} {w : HL Γl → Option R} {d : HL Γ → (List β → HL Γ1 → Option R) → Option R} {wk : HL Γ1 → HL Γl} {bd : β → HL Γl → Option (HL Γb)} {wb : HL Γb → Option (Fl (HL Γl) R)} (hi : TI T c Γ md it e2 Γ1 d) (hw : WnF Γ1 Γl wk) (ht : TG Γl t e2 Γb bd) (hb : TS T c Γb body wb (PG Γl P)) (hs : TS T c Γl ss w P) : TS T c Γ (.for t md it body :: ss) (fun γ => d γ fun xs γ1 => en (forG (fun x s => (bd x s).bind fun s1 => wb s1) xs (wk γ1)) w) P := ⟨fun γ r v hr hv => by
  obtain ⟨xs, γ', r', h1, h2, h3⟩ := hi.h γ r _ v hr hv
  have key : ∀ o, forG (fun x s => (bd x s).bind fun s1 => wb s1) xs (wk γ') = some o → _ := fun o ho => for_RG (P := P) (f := fun y rr => match asgG t y rr with
        | none => .bad
        | some r2 => evSs T c body r2) (h := e2) (fun x s s' r hr hg => by
    obtain ⟨s1, g1, g2⟩ := bs hg
    obtain ⟨r1, a1, a2⟩ := ht.h x s s1 r hr g1
    obtain ⟨fl, r2, b1, b2⟩ := hb.h s1 r1 s' a2 g2
    exact ⟨fl, r2, by rw [a1]; exact b1, b2⟩) xs _ o r' (hw.h 0 _ _ h2) ho
  unfold en at h3
  split at h3
  · rename_i s q
    obtain ⟨fl, r2, h6, rfl, h7⟩ := key _ q
    exact run_nx (s_for h1 h6) (hs.h s r2 v h7 h3)
  · rename_i v' q
    cases h3
    obtain ⟨fl, r2, h6, ⟨k, dd, rfl⟩, h7⟩ := key _ q
    exact run_stop (s_for h1 h6) (fun h => by cases h) h7
  · cases h3⟩
def whlG {σ ρ : Type} (t : σ → Option Bool) (g : σ → Option (Fl σ ρ)) : Nat → σ → Option (Fl σ ρ)
  | 0, _ => none
  | n + 1, s => match t s with
    | none => none
    | some false => some (.nx s)
    | some true => match g s with
      | some (.nx s') => whlG t g n s'
      | some (.brk s') => some (.nx s')
      | some (.ret v) => some (.ret v)
      | none => none
theorem whl_RG {t : Env → Out Bool} {f : Env → Out Flow} {dt : HL Γ → Option Bool} {g : HL Γ → Option (Fl (HL Γ) R)} (ht : ∀ s r k, Rel Γ s r → dt s = some k → t r = .ok k r) (hf : ∀ s s' r, Rel Γ s r → g s = some s' → ∃ fl r', f r = .ok fl r' ∧ PG Γ P s' fl r') : ∀ (n : Nat) (s : HL Γ) (s' : Fl (HL Γ) R) (r : Env), Rel Γ s r → whlG dt g n s = some s' → ∃ fl r', loopW t f n r = .ok fl r' ∧ PE Γ P s' fl r'
  | 0, s, s', r, hr, e => by cases e
  | n + 1, s, s', r, hr, e => by
    unfold whlG at e
    cases hk : dt s with
    | none => rw [hk] at e; cases e
    | some k =>
      rw [hk] at e
      have h0 := ht s r k hr hk
      cases k with
      | false =>
        cases e
        exact ⟨.nx, r, by simp only [loopW, h0, b_ok, Bool.false_eq_true, if_false], rfl, hr⟩
      | true =>
        cases hg : g s with
        | none => simp only [hg] at e; cases e
        | some o =>
          simp only [hg] at e
          obtain ⟨fl, r1, h1, h2⟩ := hf s o r hr hg
          cases o with
          | nx s1 =>
            obtain ⟨h2, h3⟩ := h2
            obtain ⟨fl2, r2, h4, h5⟩ := whl_RG ht hf n s1 s' r1 h3 e
            refine ⟨fl2, r2, ?_, h5⟩
            rcases h2 with rfl | rfl <;> (simp only [loopW, h0, h1, b_ok, if_true]; exact h4)
          | brk s1 =>
            cases e
            obtain ⟨rfl, h3⟩ := h2
            exact ⟨.nx, r1, by simp only [loopW, h0, h1, b_ok, if_true], rfl, h3⟩
          | ret v =>
            cases e
            obtain ⟨⟨k, d, rfl⟩, h3⟩ := h2
            exact ⟨_, r1, by simp only [loopW, h0, h1, b_ok, if_true], ⟨_, _, rfl⟩, h3⟩
theorem ts_whl {cd : ME} {body : List MS} {w : HL Γl → Option R} {wk : HL Γ → HL Γl} {dt : HL Γl → Option Bool} {wb : HL Γl → Option (Fl (HL Γl) R)} (hw : WnF Γ Γl wk) (ht : TE T c .p Γl cd eB dt) (hb : TS T c Γl body wb (PG Γl P)) (hs : TS T c Γl ss w P) : TS T c Γ (.whl (.keep []) cd body :: ss) (fun γ => en (whlG dt wb 100000 (wk γ)) w) P := ⟨fun γ r v hr hv => by
  have key : ∀ o, whlG dt wb 100000 (wk γ) = some o → _ := fun o ho => whl_RG (P := P) (t := fun rr => evT T c (.keep []) cd rr) (f := fun rr => evSs T c body rr) (fun s r k hr hk => t_keep (ht.h s r k hr hk) (t_b k)) (fun s s' r hr hg => hb.h s r s' hr hg) 100000 _ o r (hw.h 0 _ _ hr) ho
  unfold en at hv
  split at hv
  · rename_i s q
    obtain ⟨fl, r2, h6, rfl, h7⟩ := key _ q
    exact run_nx (s_whl h6) (hs.h s r2 v h7 hv)
  · rename_i v' q
    cases hv
    obtain ⟨fl, r2, h6, ⟨k, dd, rfl⟩, h7⟩ := key _ q
    exact run_stop (s_whl h6) (fun h => by cases h) h7
  · cases hv⟩
end
def nonsK : Nat → List K
  | 0 => []
  | n + 1 => kN :: nonsK n
def nonsH : (n : Nat) → HL (nonsK n)
  | 0 => ()
  | n + 1 => ((), nonsH n)
def appH : (ps qs : List K) → HL ps → HL qs → HL (ps ++ qs)
  | [], _, _, b => b
  | _ :: ks, qs, a, b => (a.1, appH ks qs a.2 b)
/-- parameters as the model hands them in -/
def slotA : (ps : List K) → HL ps → List Slot
  | [], _ => []
  | k :: ks, a => (match k.k with
    | .M => Slot.mut (k.e a.1)
    | _ => Slot.val (k.e a.1)) :: slotA ks a.2
def allVM : List K → Bool
  | [] => true
  | k :: ks => (match k.k with
    | .M => true
    | .V => true
    | _ => false) && allVM ks
theorem rel_nons : ∀ (n j : Nat) (pre : Env), pre.length = j → RelF (nonsK n) j (nonsH n) (pre ++ List.replicate n .non)
  | 0, j, pre, h => by simpa [RelF, nonsK] using h
  | n + 1, j, pre, h => by
    refine ⟨?_, ?_⟩
    · show (pre ++ List.replicate (n + 1) Slot.non)[j]? = some .non
      rw [List.getElem?_append_right (by omega)]
      simp [h]
    · have := rel_nons n (j + 1) (pre ++ [.non]) (by simp [h])
      rw [List.append_assoc, show [Slot.non] ++ List.replicate n .non = List.replicate (n + 1) .non from rfl] at this
      exact this
theorem rel_args : ∀ (ps : List K) (n j : Nat) (a : HL ps) (pre : Env), allVM ps = true → pre.length = j → RelF (ps ++ nonsK n) j (appH ps (nonsK n) a (nonsH n)) (pre ++ slotA ps a ++ List.replicate n .non)
  | [], n, j, a, pre, _, h => by
    simp only [slotA, List.append_nil, List.nil_append]
    exact rel_nons n j pre h
  | k :: ks, n, j, a, pre, hv, h => by
    simp only [allVM, Bool.and_eq_true] at hv
    refine ⟨?_, ?_⟩
    · have : (pre ++ slotA (k :: ks) a ++ List.replicate n Slot.non)[j]? = some (match k.k with
        | .M => Slot.mut (k.e a.1)
        | _ => Slot.val (k.e a.1)) := by
        rw [List.append_assoc, List.getElem?_append_right (by omega)]
        simp [h, slotA]
      rw [this]
      unfold relS
      show match k.k with
        | .V => _
        | .O => _
        | .M => _
        | .N => _
        | .J => _
        | .X => _
      cases hk : k.k with
      | V => rfl
      | M => rfl
      | O => rw [hk] at hv; cases hv.1
      | N => rw [hk] at hv; cases hv.1
      | J => rw [hk] at hv; cases hv.1
      | X => rw [hk] at hv; cases hv.1
    · have := rel_args ks n (j + 1) a.2 (pre ++ [match k.k with
        | .M => Slot.mut (k.e a.1)
        | _ => Slot.val (k.e a.1)]) hv.2 (by simp [h])
      simp only [List.append_assoc, List.cons_append, List.nil_append] at this
      simp only [slotA, List.append_assoc, List.cons_append]
      exact this
def ioOf : List K → Nat → List Nat
  | [], _ => []
  | k :: ks, n => match k.k with
    | .M => n :: ioOf ks (n + 1)
    | _ => ioOf ks (n + 1)
theorem encA_len : ∀ (ps : List K) (a : HL ps), (encA ps a).length = ps.length
  | [], _ => rfl
  | k :: ks, a => by simp only [encA, List.length_cons, encA_len ks a.2]
theorem ioOf_cons (k : K) (ks : List K) (n : Nat) : ioOf (k :: ks) n = match k.k with
    | .M => n :: ioOf ks (n + 1)
    | _ => ioOf ks (n + 1) := rfl
theorem ioOf_lt {i : Nat} : ∀ {ps : List K} {j : Nat}, i < j → (ioOf ps j).contains i = false
  | [], j, h => by simp [ioOf]
  | k :: ks, j, h => by
    unfold ioOf
    have q : (ioOf ks (j + 1)).contains i = false := ioOf_lt (by omega)
    split
    · simp only [List.contains_cons, q, Bool.or_false]
      simp; omega
    · exact q
theorem start_args (io : List Nat) : ∀ (ps : List K) (j : Nat) (a : HL ps), (∀ i, j ≤ i → io.contains i = (ioOf ps j).contains i) → allVM ps = true → ((List.range' j ps.length).zip (encA ps a)).map (fun p => if io.contains p.1 then Slot.mut p.2 else Slot.val p.2) = slotA ps a
  | [], j, a, _, _ => rfl
  | k :: ks, j, a, h, hv => by
    simp only [allVM, Bool.and_eq_true] at hv
    have ih := start_args io ks (j + 1) a.2 (fun i hi => by
      rw [h i (by omega), ioOf_cons]
      split
      · simp only [List.contains_cons]
        have : (i == j) = false := by simp; omega
        rw [this, Bool.false_or]
      · rfl) hv.2
    simp only [List.length_cons, List.range'_succ, encA, List.zip_cons_cons, List.map_cons, ih, slotA]
    congr 1
    rw [h j (by omega)]
    unfold ioOf
    cases hk : k.k with
    | M => simp
    | V => simp only [ioOf_lt (Nat.lt_succ_self j)]; simp
    | O => rw [hk] at hv; cases hv.1
    | N => rw [hk] at hv; cases hv.1
    | J => rw [hk] at hv; cases hv.1
    | X => rw [hk] at hv; cases hv.1
theorem start_rel {fn : Fn} {ps : List K} (hp : fn.np = ps.length) (hio : fn.io = ioOf ps 0) (hv : allVM ps = true) (a : HL ps) : Rel (ps ++ nonsK (fn.ns - fn.np)) (appH ps (nonsK (fn.ns - fn.np)) a (nonsH (fn.ns - fn.np))) (startE fn (encA ps a)) := by
  have h := rel_args ps (fn.ns - fn.np) 0 a [] hv rfl
  have e : startE fn (encA ps a) = [] ++ slotA ps a ++ List.replicate (fn.ns - fn.np) .non := by
    unfold startE
    rw [encA_len, List.range_eq_range', start_args fn.io ps 0 a (fun i _ => by rw [hio]) hv, hp]
    rfl
  rw [e]
  exact h
theorem fs_of {α : Type} {e : α → D} {T : Nat → Option Fn} {n f : Nat} {fn : Fn} {ps Γ : List K} {w : HL Γ → Option α} {st : HL ps → HL Γ} (hT : T f = some fn) (hp : fn.np = ps.length) (hio : fn.io = []) (hio2 : ioOf ps 0 = []) (hv : allVM ps = true) (hst : ∀ a, Rel Γ (st a) (startE fn (encA ps a))) (h : TS T (callF T n) Γ fn.body w (PF fn e)) : FS (callF T (n + 1)) f ps e (fun a => w (st a)) := ⟨fun a v hv' => by
  obtain ⟨fl, r', h1, h2⟩ := h.h _ _ v (hst a) hv'
  constructor
  rw [call_eq T n f fn (encA ps a) hT (by rw [encA_len, hp]), h1]
  exact h2⟩
theorem fs_at {α : Type} {e : α → D} {T : Nat → Option Fn} {n f : Nat} {fn : Fn} {ps : List K} {w : HL (ps ++ nonsK (fn.ns - fn.np)) → Option α} (hT : T f = some fn) (hp : fn.np = ps.length) (hio : fn.io = []) (hio2 : ioOf ps 0 = []) (hv : allVM ps = true) (h : TS T (callF T n) (ps ++ nonsK (fn.ns - fn.np)) fn.body w (PF fn e)) : FS (callF T (n + 1)) f ps e (fun a => w (appH ps (nonsK (fn.ns - fn.np)) a (nonsH (fn.ns - fn.np)))) :=
  fs_of hT hp hio hio2 hv (start_rel hp (by rw [hio, hio2]) hv) h
end Cw.J
end

section
namespace Cw.J
open PySem
section
variable {T : Nat → Option Fn} {c : Nat → List D → OutC} {α β δ ι R : Type} {e e1 : α → D} {e2 : β → D} {e3 : δ → D} {Γ Γ1 Γ2 Γ3 Γ' Γl Γb Γw : List K} {kk : Nat} {md : Md} {m a b : ME} {ms : List ME}
structure TX (T : Nat → Option Fn) (c : Nat → List D → OutC) (Γ : List K) (m : ME) {α : Type} (e : α → D) (d : HL Γ → Option (α × HL Γ)) : Prop where
  h : ∀ γ r v, Rel Γ γ r → d γ = some v → ∃ r', evE T c m r = .ok (e v.1) r' ∧ Rel Γ v.2 r'
theorem tx_te {d : HL Γ → Option α} (h : TE T c .i Γ m e d) : TX T c Γ m e (fun γ => (d γ).bind fun x => some (x, γ)) := ⟨fun γ r v hr hv => by
  obtain ⟨x, hx, hv⟩ := bs hv
  cases hv
  have := (h.h γ r x hr hx).h
  rw [mu_i] at this
  exact ⟨r, this, hr⟩⟩
theorem tx_bin {op : BOp} {f : α → β → Option δ} {da : HL Γ → Option (α × HL Γ)} {db : HL Γ → Option (β × HL Γ)} (h : ∀ x y v, f x y = some v → BinR op (e1 x) (e2 y) (e3 v)) (ha : TX T c Γ a e1 da) (hb : TX T c Γ b e2 db) : TX T c Γ (.bin op a b) e3 (fun γ => (da γ).bind fun p => (db p.2).bind fun q => (f p.1 q.1).bind fun v => some (v, q.2)) := ⟨fun γ r v hr hv => by
  obtain ⟨x, hx, hv⟩ := bs hv
  obtain ⟨y, hy, hv⟩ := bs hv
  obtain ⟨z, hz, hv⟩ := bs hv
  cases hv
  obtain ⟨r1, a1, a2⟩ := ha.h γ r x hr hx
  obtain ⟨r2, b1, b2⟩ := hb.h _ _ y a2 hy
  exact ⟨r2, by simp only [evE, a1, b1, b_ok, (h _ _ _ hz).h, lift_some], b2⟩⟩
theorem tx_cmp {op : COp} {f : α → β → Bool} {da : HL Γ → Option (α × HL Γ)} {db : HL Γ → Option (β × HL Γ)} (h : ∀ x y, CmpR op (e1 x) (e2 y) (f x y)) (ha : TX T c Γ a e1 da) (hb : TX T c Γ b e2 db) : TX T c Γ (.cmp op a b) eB (fun γ => (da γ).bind fun p => (db p.2).bind fun q => some (f p.1 q.1, q.2)) := ⟨fun γ r v hr hv => by
  obtain ⟨x, hx, hv⟩ := bs hv
  obtain ⟨y, hy, hv⟩ := bs hv
  cases hv
  obtain ⟨r1, a1, a2⟩ := ha.h γ r x hr hx
  obtain ⟨r2, b1, b2⟩ := hb.h _ _ y a2 hy
  exact ⟨r2, by simp only [evE, a1, b1, b_ok, (h _ _).h, Option.map_some, lift_some], b2⟩⟩
theorem tx_idx {f : α → β → Option δ} {da : HL Γ → Option (α × HL Γ)} {db : HL Γ → Option (β × HL Γ)} (h : ∀ x y v, f x y = some v → IdxR (e1 x) (e2 y) (e3 v)) (ha : TX T c Γ a e1 da) (hb : TX T c Γ b e2 db) : TX T c Γ (.idx a b) e3 (fun γ => (da γ).bind fun p => (db p.2).bind fun q => (f p.1 q.1).bind fun v => some (v, q.2)) := ⟨fun γ r v hr hv => by
  obtain ⟨x, hx, hv⟩ := bs hv
  obtain ⟨y, hy, hv⟩ := bs hv
  obtain ⟨z, hz, hv⟩ := bs hv
  cases hv
  obtain ⟨r1, a1, a2⟩ := ha.h γ r x hr hx
  obtain ⟨r2, b1, b2⟩ := hb.h _ _ y a2 hy
  exact ⟨r2, by simp only [evE, a1, b1, b_ok, (h _ _ _ hz).h, lift_some], b2⟩⟩
theorem tx_rng {da db : HL Γ → Option (Int × HL Γ)} (ha : TX T c Γ a eI da) (hb : TX T c Γ b eI db) : TX T c Γ (.rng a b) (eL eI) (fun γ => (da γ).bind fun p => (db p.2).bind fun q => (rngO p.1 q.1).bind fun v => some (v, q.2)) := ⟨fun γ r v hr hv => by
  obtain ⟨x, hx, hv⟩ := bs hv
  obtain ⟨y, hy, hv⟩ := bs hv
  obtain ⟨z, hz, hv⟩ := bs hv
  cases hv
  obtain ⟨r1, a1, a2⟩ := ha.h γ r x hr hx
  obtain ⟨r2, b1, b2⟩ := hb.h _ _ y a2 hy
  exact ⟨r2, by simp only [evE, a1, b1, b_ok, rng_I hz, lift_some], b2⟩⟩
theorem tx_neg {da : HL Γ → Option (Int × HL Γ)} (ha : TX T c Γ a eI da) : TX T c Γ (.neg a) eI (fun γ => (da γ).bind fun p => some (-p.1, p.2)) := ⟨fun γ r v hr hv => by
  obtain ⟨x, hx, hv⟩ := bs hv
  cases hv
  obtain ⟨r1, a1, a2⟩ := ha.h γ r x hr hx
  exact ⟨r1, by simp only [evE, a1, b_ok, eI, isInt, Option.map_some, lift_some], a2⟩⟩
theorem tx_co {d : HL Γ → Option (α × HL Γ)} (co : α → β) (hc : ∀ x, e1 x = e2 (co x)) (h : TX T c Γ m e1 d) : TX T c Γ m e2 (fun γ => (d γ).bind fun p => some (co p.1, p.2)) := ⟨fun γ r v hr hv => by
  obtain ⟨x, hx, hv⟩ := bs hv
  cases hv
  obtain ⟨r1, a1, a2⟩ := h.h γ r x hr hx
  exact ⟨r1, by rw [a1, hc], a2⟩⟩
theorem tx_ite {m : ME} {dc : HL Γ → Option (Bool × HL Γ)} {da db : HL Γ → Option (α × HL Γ)} (hc : TX T c Γ m eB dc) (ha : TX T c Γ a e da) (hb : TX T c Γ b e db) : TX T c Γ (.ite m a b) e (fun γ => (dc γ).bind fun p => if p.1 then da p.2 else db p.2) := ⟨fun γ r v hr hv => by
  obtain ⟨⟨k, γ1⟩, hx, hv⟩ := bs hv
  obtain ⟨r1, a1, a2⟩ := hc.h γ r _ hr hx
  cases k with
  | true =>
    simp only [if_true] at hv
    obtain ⟨r2, b1, b2⟩ := ha.h _ _ v a2 hv
    exact ⟨r2, by simp only [evE, a1, tru_ok, truth_b, lift_some, b_ok, if_true, b1], b2⟩
  | false =>
    simp only [Bool.false_eq_true, if_false] at hv
    obtain ⟨r2, b1, b2⟩ := hb.h _ _ v a2 hv
    exact ⟨r2, by simp only [evE, a1, tru_ok, truth_b, lift_some, b_ok, Bool.false_eq_true, if_false, b1], b2⟩⟩
theorem tx_bi1 {bi : Bi} {f : α → Option β} {da : HL Γ → Option (α × HL Γ)} (h : ∀ x v, f x = some v → BiR bi [e1 x] (e2 v)) (ha : TX T c Γ a e1 da) : TX T c Γ (.bi bi [a]) e2 (fun γ => (da γ).bind fun p => (f p.1).bind fun v => some (v, p.2)) := ⟨fun γ r v hr hv => by
  obtain ⟨x, hx, hv⟩ := bs hv
  obtain ⟨z, hz, hv⟩ := bs hv
  cases hv
  obtain ⟨r1, a1, a2⟩ := ha.h γ r x hr hx
  exact ⟨r1, by simp only [evE, evEs, a1, b_ok, (h _ _ hz).h, lift_some], a2⟩⟩
theorem tx_bi2 {bi : Bi} {f : α → β → Option δ} {da : HL Γ → Option (α × HL Γ)} {db : HL Γ → Option (β × HL Γ)} (h : ∀ x y v, f x y = some v → BiR bi [e1 x, e2 y] (e3 v)) (ha : TX T c Γ a e1 da) (hb : TX T c Γ b e2 db) : TX T c Γ (.bi bi [a, b]) e3 (fun γ => (da γ).bind fun p => (db p.2).bind fun q => (f p.1 q.1).bind fun v => some (v, q.2)) := ⟨fun γ r v hr hv => by
  obtain ⟨x, hx, hv⟩ := bs hv
  obtain ⟨y, hy, hv⟩ := bs hv
  obtain ⟨z, hz, hv⟩ := bs hv
  cases hv
  obtain ⟨r1, a1, a2⟩ := ha.h γ r x hr hx
  obtain ⟨r2, b1, b2⟩ := hb.h _ _ y a2 hy
  exact ⟨r2, by simp only [evE, evEs, a1, b1, b_ok, (h _ _ _ hz).h, lift_some], b2⟩⟩
structure TXL (T : Nat → Option Fn) (c : Nat → List D → OutC) (Γ : List K) (ms : List ME) {α : Type} (e : α → D) (d : HL Γ → Option (List α × HL Γ)) : Prop where
  h : ∀ γ r v, Rel Γ γ r → d γ = some v → (∃ r', evEs T c ms r = .ok (v.1.map e) r' ∧ Rel Γ v.2 r') ∧ v.1.length = ms.length
theorem txl_nil : TXL T c Γ [] e (fun γ => some ([], γ)) := ⟨fun γ r v hr hv => by cases hv; exact ⟨⟨r, rfl, hr⟩, rfl⟩⟩
theorem txl_cons {da : HL Γ → Option (α × HL Γ)} {ds : HL Γ → Option (List α × HL Γ)} (ha : TX T c Γ a e da) (hs : TXL T c Γ ms e ds) : TXL T c Γ (a :: ms) e (fun γ => (da γ).bind fun p => (ds p.2).bind fun q => some (p.1 :: q.1, q.2)) := ⟨fun γ r v hr hv => by
  obtain ⟨x, hx, hv⟩ := bs hv
  obtain ⟨y, hy, hv⟩ := bs hv
  cases hv
  obtain ⟨r1, a1, a2⟩ := ha.h γ r x hr hx
  obtain ⟨⟨r2, b1, b2⟩, b3⟩ := hs.h _ _ y a2 hy
  exact ⟨⟨r2, by simp only [evEs, a1, b1, b_ok, List.map_cons], b2⟩, by simp [b3]⟩⟩
theorem tx_tup {ds : HL Γ → Option (List α × HL Γ)} (hl : Nat.ble ms.length LIM = true) (hs : TXL T c Γ ms e ds) : TX T c Γ (.tup ms) (eT e) ds := ⟨fun γ r v hr hv => by
  obtain ⟨⟨r1, a1, a2⟩, a3⟩ := hs.h γ r v hr hv
  have hl' := Nat.le_of_ble_eq_true hl
  exact ⟨r1, by simp only [evE, a1, b_ok, List.length_map, a3, hl', if_true]; rfl, a2⟩⟩
theorem tx_lst {ds : HL Γ → Option (List α × HL Γ)} (hl : Nat.ble ms.length LIM = true) (hs : TXL T c Γ ms e ds) : TX T c Γ (.lst ms) (eL e) ds := ⟨fun γ r v hr hv => by
  obtain ⟨⟨r1, a1, a2⟩, a3⟩ := hs.h γ r v hr hv
  have hl' := Nat.le_of_ble_eq_true hl
  exact ⟨r1, by simp only [evE, a1, b_ok, List.length_map, a3, hl', if_true]; rfl, a2⟩⟩
theorem tx_p2 {da : HL Γ → Option (α × HL Γ)} {db : HL Γ → Option (β × HL Γ)} (ha : TX T c Γ a e1 da) (hb : TX T c Γ b e2 db) : TX T c Γ (.tup [a, b]) (eP2 e1 e2) (fun γ => (da γ).bind fun p => (db p.2).bind fun q => some ((p.1, q.1), q.2)) := ⟨fun γ r v hr hv => by
  obtain ⟨x, hx, hv⟩ := bs hv
  obtain ⟨y, hy, hv⟩ := bs hv
  cases hv
  obtain ⟨r1, a1, a2⟩ := ha.h γ r x hr hx
  obtain ⟨r2, b1, b2⟩ := hb.h _ _ y a2 hy
  have hl : ([e1 x.1, e2 y.1] : List D).length ≤ LIM := by simp [LIM]
  exact ⟨r2, by simp only [evE, evEs, a1, b1, b_ok, hl, if_true]; rfl, b2⟩⟩
theorem tx_p3 {da : HL Γ → Option (α × HL Γ)} {db : HL Γ → Option (β × HL Γ)} {dc : HL Γ → Option (δ × HL Γ)} (ha : TX T c Γ a e1 da) (hb : TX T c Γ b e2 db) (hc : TX T c Γ m e3 dc) : TX T c Γ (.tup [a, b, m]) (eP3 e1 e2 e3) (fun γ => (da γ).bind fun p => (db p.2).bind fun q => (dc q.2).bind fun s => some ((p.1, q.1, s.1), s.2)) := ⟨fun γ r v hr hv => by
  obtain ⟨x, hx, hv⟩ := bs hv
  obtain ⟨y, hy, hv⟩ := bs hv
  obtain ⟨z, hz, hv⟩ := bs hv
  cases hv
  obtain ⟨r1, a1, a2⟩ := ha.h γ r x hr hx
  obtain ⟨r2, b1, b2⟩ := hb.h _ _ y a2 hy
  obtain ⟨r3, c1, c2⟩ := hc.h _ _ z b2 hz
  have hl : ([e1 x.1, e2 y.1, e3 z.1] : List D).length ≤ LIM := by simp [LIM]
  exact ⟨r3, by simp only [evE, evEs, a1, b1, c1, b_ok, hl, if_true]; rfl, c2⟩⟩
structure FX (c : Nat → List D → OutC) (f : Nat) (ps : List K) (e : α → D) (os : List K) (g : HL ps → Option (α × HL os)) : Prop where
  h : ∀ a v, g a = some v → c f (encA ps a) = .ok (e v.1) (encA os v.2)
structure TAX (T : Nat → Option Fn) (c : Nat → List D → OutC) (Γ : List K) (io : List Nat) (n : Nat) (ms : List ME) (ps : List K) (d : HL Γ → Option (HL ps × HL Γ)) : Prop where
  h : ∀ γ r v, Rel Γ γ r → d γ = some v → ∃ r', evAs T c io n ms r = .ok (encA ps v.1) r' ∧ Rel Γ v.2 r'
variable {io : List Nat} {n : Nat} {ps os : List K}
theorem tax_nil : TAX T c Γ io n [] [] (fun γ => some ((), γ)) := ⟨fun γ r v hr hv => by cases hv; exact ⟨r, rfl, hr⟩⟩
theorem tax_cons {da : HL Γ → Option (α × HL Γ)} {ds : HL Γ → Option (HL ps × HL Γ)} (hn : io.contains n = false) (ha : TX T c Γ a e da) (hs : TAX T c Γ io (n + 1) ms ps ds) : TAX T c Γ io n (a :: ms) (kV e :: ps) (fun γ => (da γ).bind fun p => (ds p.2).bind fun q => some ((p.1, q.1), q.2)) := ⟨fun γ r v hr hv => by
  obtain ⟨x, hx, hv⟩ := bs hv
  obtain ⟨y, hy, hv⟩ := bs hv
  cases hv
  obtain ⟨r1, a1, a2⟩ := ha.h γ r x hr hx
  obtain ⟨r2, b1, b2⟩ := hs.h _ _ y a2 hy
  exact ⟨r2, by simp only [evAs, hn, Bool.false_eq_true, if_false, a1, b1, b_ok, encA], b2⟩⟩
theorem tax_io {j : Nat} {g : HL Γ → α} {up : α → HL Γ → HL Γ} {ds : HL Γ → Option (HL ps × HL Γ)} (hn : io.contains n = true) (hu : UpM Γ j e g up) (hs : TAX T c Γ io (n + 1) ms ps ds) : TAX T c Γ io n (.var j :: ms) (kM e :: ps) (fun γ => (ds γ).bind fun q => some ((g q.2, q.1), q.2)) := ⟨fun γ r v hr hv => by
  obtain ⟨y, hy, hv⟩ := bs hv
  cases hv
  obtain ⟨r2, b1, b2⟩ := hs.h _ _ y hr hy
  exact ⟨r2, by simp only [evAs, hn, if_true, (hu.h γ r hr).1, lift_some, b_ok, b1, (hu.h _ r2 b2).1, encA], b2⟩⟩
structure PutS (Γ : List K) (js : List Nat) (os : List K) (up : HL os → HL Γ → HL Γ) : Prop where
  h : ∀ v γ r, Rel Γ γ r → Rel Γ (up v γ) (putMs r js (encA os v))
theorem put_nil : PutS Γ [] [] (fun _ γ => γ) := ⟨fun v γ r hr => hr⟩
theorem put_cons {j : Nat} {js : List Nat} {g : HL Γ → α} {up : α → HL Γ → HL Γ} {ups : HL os → HL Γ → HL Γ} (hu : UpM Γ j e g up) (hs : PutS Γ js os ups) : PutS Γ (j :: js) (kM e :: os) (fun v γ => ups v.2 (up v.1 γ)) := ⟨fun v γ r hr => hs.h _ _ _ ((hu.h γ r hr).2 _)⟩
theorem tx_call {f : Nat} {fn : Fn} {g : HL ps → Option (α × HL os)} {ds : HL Γ → Option (HL ps × HL Γ)} {js : List Nat} {up : HL os → HL Γ → HL Γ} (hT : T f = some fn) (hio : fn.io = io) (hj : ioSlots io ms = some js) (hnd : decide js.Nodup = true) (hl : os.length = js.length) (hf : FX c f ps e os g) (hs : TAX T c Γ io 0 ms ps ds) (hp : PutS Γ js os up) : TX T c Γ (.call f ms) e (fun γ => (ds γ).bind fun p => (g p.1).bind fun v => some (v.1, up v.2 p.2)) := ⟨fun γ r v hr hv => by
  obtain ⟨x, hx, hv⟩ := bs hv
  obtain ⟨y, hy, hv⟩ := bs hv
  cases hv
  obtain ⟨r1, a1, a2⟩ := hs.h γ r x hr hx
  refine ⟨_, ?_, hp.h y.2 _ _ a2⟩
  have hl' : (encA os y.2).length = js.length := by rw [encA_len, hl]
  simp only [evE, hT, hio, hj, hnd, Bool.not_true, Bool.false_eq_true, if_false, a1, b_ok, hf.h _ _ hy, hl', if_true]⟩
/-- a call of a function that changes no list, its arguments do -/
theorem tx_callp {f : Nat} {fn : Fn} {g : HL ps → Option α} {ds : HL Γ → Option (HL ps × HL Γ)} (hT : T f = some fn) (hio : fn.io = []) (hf : FS c f ps e g) (hs : TAX T c Γ [] 0 ms ps ds) : TX T c Γ (.call f ms) e (fun γ => (ds γ).bind fun p => (g p.1).bind fun v => some (v, p.2)) := ⟨fun γ r v hr hv => by
  obtain ⟨x, hx, hv⟩ := bs hv
  obtain ⟨y, hy, hv⟩ := bs hv
  cases hv
  obtain ⟨r1, a1, a2⟩ := hs.h γ r x hr hx
  refine ⟨r1, ?_, a2⟩
  simp only [evE, hT, hio, ioSlots]
  rw [if_neg (by simp)]
  simp only [a1, b_ok, (hf.h _ _ hy).h, List.length_nil, if_true, putMs]⟩
theorem tm_io {is : List Nat} {wk : HL Γ → HL Γ'} {d : HL Γ' → Option (α × HL Γ')} (hk : ∀ x, (kk == 1 && isMut (e x)) = false) (hf : Fz Γ is Γ' wk) (h : TX T c Γ' m e d) : TM (R := R) T c Γ kk (.io is) m e Γ' (fun γ k => (d (wk γ)).bind fun p => k p.1 p.2) := ⟨fun γ r k v hr hv => by
  obtain ⟨x, hx, hv⟩ := bs hv
  obtain ⟨r', a1, a2⟩ := h.h _ _ x (hf.h γ r hr) hx
  refine ⟨x.1, x.2, r', ?_, a2, hv⟩
  show (evE T c m (frz r is)).bind _ = _
  rw [a1]
  show (if (kk == 1 && isMut (e x.1)) = true then _ else Out.ok (e x.1) r') = _
  rw [hk x.1]
  rfl⟩
theorem mix_len : ∀ (r q : Env), (mixE r q).length = q.length
  | [], q => by cases q <;> simp [mixE]
  | s :: r, [] => by cases s <;> simp [mixE]
  | s :: r, x :: q => by cases s <;> simp [mixE, mix_len r q]
theorem mix_get : ∀ (r q : Env) (i : Nat), r.length = q.length → (mixE r q)[i]? = match r[i]? with
    | some (.val d) => some (.val d)
    | some .non => some .non
    | some (.prt d) => some (.prt d)
    | _ => q[i]?
  | [], q, i, h => by
    have : q = [] := List.length_eq_zero_iff.mp h.symm
    subst this
    simp [mixE]
  | s :: r, [], i, h => by simp at h
  | s :: r, x :: q, 0, h => by cases s <;> simp [mixE]
  | s :: r, x :: q, i + 1, h => by
    have ih := mix_get r q i (by simpa using h)
    cases s <;> simpa [mixE] using ih
structure MixF (Γ : List K) (mix : HL Γ → HL Γ → HL Γ) : Prop where
  h : ∀ n γ γ' r r', r.length = r'.length → RelF Γ n γ r → RelF Γ n γ' r' → RelF Γ n (mix γ γ') (mixE r r')
theorem mx_nil : MixF [] (fun γ _ => γ) := ⟨fun n γ γ' r r' hl h h' => by
  show (mixE r r').length = n
  rw [mix_len]; exact h'⟩
theorem mx_V {e : α → D} {mix : HL Γ → HL Γ → HL Γ} (h : MixF Γ mix) : MixF (kV e :: Γ) (fun γ γ' => (γ.1, mix γ.2 γ'.2)) := ⟨fun n γ γ' r r' hl q q' => ⟨by
  have q1 : r[n]? = some (.val (e γ.1)) := q.1
  show (mixE r r')[n]? = _
  rw [mix_get r r' n hl, q1], h.h _ _ _ _ _ hl q.2 q'.2⟩⟩
theorem mx_N {mix : HL Γ → HL Γ → HL Γ} (h : MixF Γ mix) : MixF (kN :: Γ) (fun γ γ' => (γ.1, mix γ.2 γ'.2)) := ⟨fun n γ γ' r r' hl q q' => ⟨by
  have q1 : r[n]? = some .non := q.1
  show (mixE r r')[n]? = _
  rw [mix_get r r' n hl, q1], h.h _ _ _ _ _ hl q.2 q'.2⟩⟩
theorem mx_J {mix : HL Γ → HL Γ → HL Γ} (h : MixF Γ mix) : MixF (kJ :: Γ) (fun γ γ' => (γ.1, mix γ.2 γ'.2)) := ⟨fun n γ γ' r r' hl q q' => ⟨by
  have q1 : r[n]? = some .non ∨ ∃ d, r[n]? = some (.val d) := q.1
  show (mixE r r')[n]? = _ ∨ ∃ d, (mixE r r')[n]? = _
  rw [mix_get r r' n hl]
  rcases q1 with q1 | ⟨d, q1⟩
  · rw [q1]; exact .inl rfl
  · rw [q1]; exact .inr ⟨d, rfl⟩, h.h _ _ _ _ _ hl q.2 q'.2⟩⟩
theorem mx_X {mix : HL Γ → HL Γ → HL Γ} (h : MixF Γ mix) : MixF (kX :: Γ) (fun γ γ' => (γ.1, mix γ.2 γ'.2)) := ⟨fun n γ γ' r r' hl q q' => ⟨by
  have q1 : r[n]? = some .non ∨ (∃ d, r[n]? = some (.val d)) ∨ ∃ d, r[n]? = some (.own 1 d) ∧ shal d = true := q.1
  have q2 : r'[n]? = some .non ∨ (∃ d, r'[n]? = some (.val d)) ∨ ∃ d, r'[n]? = some (.own 1 d) ∧ shal d = true := q'.1
  show (mixE r r')[n]? = _ ∨ (∃ d, (mixE r r')[n]? = _) ∨ ∃ d, (mixE r r')[n]? = _ ∧ _
  rw [mix_get r r' n hl]
  rcases q1 with q1 | ⟨d, q1⟩ | ⟨d, q1, _⟩
  · rw [q1]; exact .inl rfl
  · rw [q1]; exact .inr (.inl ⟨d, rfl⟩)
  · rw [q1]; exact q2, h.h _ _ _ _ _ hl q.2 q'.2⟩⟩
theorem mx_O {e : α → D} {mix : HL Γ → HL Γ → HL Γ} (h : MixF Γ mix) : MixF (kO e :: Γ) (fun γ γ' => (γ'.1, mix γ.2 γ'.2)) := ⟨fun n γ γ' r r' hl q q' => ⟨by
  have q1 : r[n]? = some (.own 1 (e γ.1)) := q.1
  have q2 : r'[n]? = some (.own 1 (e γ'.1)) := q'.1
  show (mixE r r')[n]? = _
  rw [mix_get r r' n hl, q1]; exact q2, h.h _ _ _ _ _ hl q.2 q'.2⟩⟩
theorem mx_M {e : α → D} {mix : HL Γ → HL Γ → HL Γ} (h : MixF Γ mix) : MixF (kM e :: Γ) (fun γ γ' => (γ'.1, mix γ.2 γ'.2)) := ⟨fun n γ γ' r r' hl q q' => ⟨by
  have q1 : r[n]? = some (.mut (e γ.1)) := q.1
  have q2 : r'[n]? = some (.mut (e γ'.1)) := q'.1
  show (mixE r r')[n]? = _
  rw [mix_get r r' n hl, q1]; exact q2, h.h _ _ _ _ _ hl q.2 q'.2⟩⟩
def shalS : Slot → Bool
  | .own _ d => shal d
  | .mut d => shal d
  | _ => true
theorem shalE_eq (r : Env) : shalE r = r.all shalS := by
  unfold shalE
  congr 1
structure ShF (Γ : List K) : Prop where
  h : ∀ n γ r, RelF Γ n γ r → ∀ i s, n ≤ i → r[i]? = some s → shalS s = true
theorem sh_nil : ShF [] := ⟨fun n γ r h i s hi hs => by
  have hl : r.length = n := h
  rw [List.getElem?_eq_none (by omega)] at hs
  cases hs⟩
theorem sh_cons {k : K} (hk : ∀ x s, relS k x (some s) → shalS s = true) (h : ShF Γ) : ShF (k :: Γ) := ⟨fun n γ r q i s hi hs => by
  by_cases e : i = n
  · subst e
    have q1 := q.1
    rw [hs] at q1
    exact hk _ _ q1
  · exact h.h _ _ _ q.2 i s (by omega) hs⟩
theorem sh_V {e : α → D} (h : ShF Γ) : ShF (kV e :: Γ) := sh_cons (fun x s q => by
  have q' : some s = some (.val (e x)) := q
  cases q'; rfl) h
theorem sh_N (h : ShF Γ) : ShF (kN :: Γ) := sh_cons (fun x s q => by
  have q' : some s = some .non := q
  cases q'; rfl) h
theorem sh_J (h : ShF Γ) : ShF (kJ :: Γ) := sh_cons (fun x s q => by
  have q' : some s = some .non ∨ ∃ d, some s = some (.val d) := q
  rcases q' with q' | ⟨d, q'⟩ <;> (cases q'; rfl)) h
theorem sh_X (h : ShF Γ) : ShF (kX :: Γ) := sh_cons (fun x s q => by
  have q' : some s = some .non ∨ (∃ d, some s = some (.val d)) ∨ ∃ d, some s = some (.own 1 d) ∧ shal d = true := q
  rcases q' with q' | ⟨d, q'⟩ | ⟨d, q', h⟩
  · cases q'; rfl
  · cases q'; rfl
  · cases q'; exact h) h
theorem sh_O {e : α → D} (hi : ImmE e) (h : ShF Γ) : ShF (kO (eL e) :: Γ) := sh_cons (fun x s q => by
  have q' : some s = some (.own 1 (eL e x)) := q
  cases q'; exact sh_L hi x) h
theorem sh_M {e : α → D} (hi : ImmE e) (h : ShF Γ) : ShF (kM (eL e) :: Γ) := sh_cons (fun x s q => by
  have q' : some s = some (.mut (eL e x)) := q
  cases q'; exact sh_L hi x) h
theorem tm_ioO {is : List Nat} {wk : HL Γ → HL Γ'} {mix : HL Γ' → HL Γ' → HL Γ'} {d : HL Γ' → Option (α × HL Γ')} (hk : ∀ x, isMut (e x) = true) (hf : Fz Γ is Γ' wk) (hsh : ShF Γ') (hm : MixF Γ' mix) (h : TX T c Γ' m e d) : TM (R := R) T c Γ 1 (.io is) m e Γ' (fun γ k => (d (wk γ)).bind fun p => k p.1 (mix (wk γ) p.2)) := ⟨fun γ r k v hr hv => by
  obtain ⟨x, hx, hv⟩ := bs hv
  have hr' := hf.h γ r hr
  obtain ⟨r', a1, a2⟩ := h.h _ _ x hr' hx
  refine ⟨x.1, _, mixE (frz r is) r', ?_, hm.h 0 _ _ _ _ (by rw [rel_len hr', rel_len a2]) hr' a2, hv⟩
  show (evE T c m (frz r is)).bind _ = _
  rw [a1]
  have hs : shalE r' = true := by
    rw [shalE_eq, List.all_eq_true]
    intro s hs
    obtain ⟨i, hi, rfl⟩ := List.mem_iff_getElem.mp hs
    exact hsh.h 0 _ _ a2 i _ (by omega) (List.getElem?_eq_getElem hi)
  show (if ((1 : Nat) == 1 && isMut (e x.1)) = true then _ else _) = _
  rw [hk x.1]
  show (if shalE r' = true then _ else _) = _
  rw [if_pos hs]⟩
theorem tt_io {is : List Nat} {wk : HL Γ → HL Γ'} {d : HL Γ' → Option (Bool × HL Γ')} (hf : Fz Γ is Γ' wk) (h : TX T c Γ' m eB d) : TT (R := R) T c Γ (.io is) m Γ' (fun γ k => (d (wk γ)).bind fun p => k p.1 p.2) := ⟨fun γ r k v hr hv => by
  obtain ⟨x, hx, hv⟩ := bs hv
  obtain ⟨r', a1, a2⟩ := h.h _ _ x (hf.h γ r hr) hx
  refine ⟨x.1, x.2, r', ?_, a2, hv⟩
  show tru (evE T c m (frz r is)) = _
  rw [a1, tru_ok]; rfl⟩
theorem ti_io {is : List Nat} {wk : HL Γ → HL Γ'} {f : α → List β} {d : HL Γ' → Option (α × HL Γ')} (hs : Its e1 e2 f) (hf : Fz Γ is Γ' wk) (h : TX T c Γ' m e1 d) : TI (R := R) T c Γ (.io is) m e2 Γ' (fun γ k => (d (wk γ)).bind fun p => k (f p.1) p.2) := ⟨fun γ r k v hr hv => by
  obtain ⟨x, hx, hv⟩ := bs hv
  obtain ⟨r', a1, a2⟩ := h.h _ _ x (hf.h γ r hr) hx
  refine ⟨f x.1, x.2, r', ?_, a2, hv⟩
  show (evE T c m (frz r is)).bind _ = _
  rw [a1, b_ok, hs.h]; rfl⟩
def cmpX {α β σ : Type} (g : α → σ → Option (Option β × σ)) : List α → σ → Option (List β × σ)
  | [], s => some ([], s)
  | x :: xs, s => match g x s with
    | some (some y, s') => (cmpX g xs s').map fun p => (y :: p.1, p.2)
    | some (none, s') => cmpX g xs s'
    | none => none
def limX {α σ : Type} (p : List α × σ) : Option (List α × σ) := if p.1.length ≤ LIM then some p else none
theorem loopC_X {f : D → Env → Out (Option D)} {h : β → D} {g : β → HL Γ → Option (Option δ × HL Γ)} (hf : ∀ x s o r, Rel Γ s r → g x s = some o → ∃ r', f (h x) r = .ok (o.1.map e3) r' ∧ Rel Γ o.2 r') : ∀ (xs : List β) (s : HL Γ) (acc : List D) (ys : List δ × HL Γ) (r : Env), Rel Γ s r → acc.length + ys.1.length ≤ LIM → cmpX g xs s = some ys →
    ∃ r', loopC f (xs.map h) acc r = .ok (acc ++ ys.1.map e3) r' ∧ Rel Γ ys.2 r'
  | [], s, acc, ys, r, hr, _, hy => by
    cases hy
    exact ⟨r, by simp [loopC], hr⟩
  | x :: xs, s, acc, ys, r, hr, hl, hy => by
    unfold cmpX at hy
    cases hg : g x s with
    | none => rw [hg] at hy; cases hy
    | some o =>
      rw [hg] at hy
      obtain ⟨r1, a1, a2⟩ := hf x s o r hr hg
      obtain ⟨o1, s1⟩ := o
      simp only [List.map_cons, loopC, a1, b_ok]
      cases o1 with
      | none =>
        simp only [Option.map_none]
        exact loopC_X hf xs s1 acc ys r1 a2 hl hy
      | some y =>
        simp only [Option.map_some]
        simp only [Option.map_eq_some_iff] at hy
        obtain ⟨zs, hz, rfl⟩ := hy
        simp only [List.length_cons] at hl
        obtain ⟨r2, b1, b2⟩ := loopC_X hf xs s1 (acc ++ [e3 y]) zs r1 a2 (by simp; omega) hz
        refine ⟨r2, ?_, b2⟩
        rw [if_pos (by omega), b1]
        simp
structure Uw (Γ Γw Γ' : List K) (vs : List Nat) (u : HL Γ → HL Γw → HL Γ') : Prop where
  h : ∀ γ γw r0 r, Rel Γ γ r0 → Rel Γw γw r → Rel Γ' (u γ γw) (unwipeE r0 r vs)
theorem uw_nil : Uw Γ Γw Γw [] (fun _ γw => γw) := ⟨fun γ γw r0 r h h' => h'⟩
theorem uw_cons {j : Nat} {vs : List Nat} {u : HL Γ → HL Γw → HL Γ'} (hj : Nat.blt j Γ.length = true) (h : Uw Γ Γw Γ' vs u) : Uw Γ Γw (updK Γ' j (getK Γ j)) (j :: vs) (fun γ γw => updH Γ' j (getK Γ j) (getH Γ j γ) (u γ γw)) := ⟨fun γ γw r0 r hr hw => by
  refine ru j (getK Γ j) _ _ _ _ (h.h γ γw r0 r hr hw) ?_
  have q := rg j hj γ r0 hr
  have hl := rel_len hr
  have hj' := Nat.blt_eq.mp hj
  have : r0[j]? = some (r0.getD j .non) := by
    rw [List.getElem?_eq_getElem (by omega)]
    simp [List.getD_eq_getElem?_getD, List.getElem?_eq_getElem (show j < r0.length by omega)]
  rw [← this]
  exact q⟩
theorem ok_Wi {γ : HL Γ} {r : Env} (h : Rel Γ γ r) {vs : List Nat} (hk : okK Γ vs = true) : okW r vs = true := by
  have := ok_W h .i hk
  rwa [mu_i] at this
theorem tx_comp {elt it : ME} {cd : Option ME} {t : Tg} {f : α → List β} {di : HL Γ → Option (α × HL Γ)} {wk : HL Γ → HL Γw} {bd : β → HL Γw → Option (HL Γb)} {dc : HL Γb → Option Bool} {de : HL Γb → Option (δ × HL Γb)} {wb : HL Γb → HL Γw} {u : HL Γ → HL Γw → HL Γ}
    (hf : Its e1 e2 f) (hi : TX T c Γ it e1 di) (hk : okK Γ (tgS t) = true) (hw : Wk Γ Γw (tgS t) wk) (ht : TG Γw t e2 Γb bd) (hc : TC T c .i Γb cd dc) (he : TX T c Γb elt e3 de) (hwb : Wk Γb Γw (tgS t) wb) (hu : Uw Γ Γw Γ (tgS t) u) :
    TX T c Γ (.comp elt t it cd) (eL e3) (fun γ => (di γ).bind fun p => (cmpX (fun y s => (bd y s).bind fun γ' => (dc γ').bind fun k => if k then (de γ').bind fun q => some (some q.1, wb q.2) else some (none, wb γ')) (f p.1) (wk p.2)).bind fun q => (limX q).bind fun q => some (q.1, u p.2 q.2)) := ⟨fun γ r v hr hv => by
  obtain ⟨x, hx, hv⟩ := bs hv
  obtain ⟨q, hq, hv⟩ := bs hv
  obtain ⟨q', hq', hv⟩ := bs hv
  unfold limX at hq'
  split at hq'
  case isFalse => cases hq'
  rename_i hlim
  cases hq'
  cases hv
  obtain ⟨r1, a1, a2⟩ := hi.h γ r x hr hx
  obtain ⟨r2, b1, b2⟩ := loopC_X (f := fun x rr => (match asgG t x rr with
        | none => .bad
        | some r2 => (evC T c cd r2).bind fun k r3 => if k then (evE T c elt r3).bind fun y r4 => .ok (some y) r4 else .ok none r3 : Out (Option D)).wiped (tgS t)) (h := e2) (e3 := e3) (fun y s o rr hrr hg => by
    obtain ⟨γ', g1, hg⟩ := bs hg
    obtain ⟨k, g2, hg⟩ := bs hg
    obtain ⟨r3, c1, c2⟩ := ht.h y s γ' rr hrr g1
    have hc' := hc.h γ' r3 k c2 g2
    rw [mu_i] at hc'
    cases k with
    | true =>
      rw [if_pos rfl] at hg
      obtain ⟨z, hz, hg⟩ := bs hg
      cases hg
      obtain ⟨r4, d1, d2⟩ := he.h γ' r3 z c2 hz
      refine ⟨wipeE r4 (tgS t), ?_, hwb.h _ _ d2⟩
      simp only [c1, hc', b_ok, if_true, d1, Out.wiped, Option.map_some]
    | false =>
      rw [if_neg Bool.false_ne_true] at hg
      cases hg
      refine ⟨wipeE r3 (tgS t), ?_, hwb.h _ _ c2⟩
      simp only [c1, hc', b_ok, Bool.false_eq_true, if_false, Out.wiped, Option.map_none]) (f x.1) (wk x.2) [] q (wipeE r1 (tgS t)) (hw.h _ _ a2) (by simpa using hlim) hq
  refine ⟨unwipeE r1 r2 (tgS t), ?_, hu.h _ _ _ _ a2 b2⟩
  simp only [evE, a1, b_ok, hf.h, lift_some, ok_Wi a2 hk, if_true]
  exact b_ok_of (congrArg Out.noX b1)⟩
end
def PFx (fn : Fn) {α : Type} (e : α → D) (os : List K) (v : α × HL os) (fl : Flow) (r : Env) : Prop := finE fn (.ok fl r) = .ok (e v.1) (encA os v.2)
/-- the changed lists of a frame -/
structure OutS (Γ : List K) (io : List Nat) (os : List K) (o : HL Γ → HL os) : Prop where
  h : ∀ γ r, Rel Γ γ r → outsE r io = some (encA os (o γ))
section
variable {α β : Type} {e : α → D} {e2 : β → D} {Γ : List K} {kk : Nat} {os : List K} {io : List Nat}
theorem os_nil : OutS Γ [] [] (fun _ => ()) := ⟨fun γ r hr => rfl⟩
theorem os_cons {i : Nat} {g : HL Γ → α} {o : HL Γ → HL os} (hl : LkM Γ i e g) (h : OutS Γ io os o) : OutS Γ (i :: io) (kM e :: os) (fun γ => (g γ, o γ)) := ⟨fun γ r hr => by
  simp only [outsE, hl.h γ r hr, h.h γ r hr, Option.map_some, encA]⟩
theorem ri_fx {fn : Fn} {o : HL Γ → HL os} (hf : ∀ x, (fn.fresh == 0 || kk == 1 || imm (e x)) = true) (ho : OutS Γ fn.io os o) : Ri Γ kk e (PFx fn e os) (fun x γ => (x, o γ)) := ⟨fun x γ r hr => by
  simp only [PFx, finE, hf x, if_true, ho.h γ r hr]⟩
theorem en_fx {fn : Fn} {o : HL Γ → HL os} (x : α) (he : e x = .none) (ho : OutS Γ fn.io os o) : En Γ .nx (PFx fn e os) (fun γ => (x, o γ)) := ⟨fun γ r hr => by
  simp only [PFx, finE, ho.h γ r hr, he]⟩
theorem fx_of {T : Nat → Option Fn} {n f : Nat} {fn : Fn} {ps : List K} {w : HL Γ → Option (α × HL os)} {st : HL ps → HL Γ} (hT : T f = some fn) (hp : fn.np = ps.length) (hst : ∀ a, Rel Γ (st a) (startE fn (encA ps a))) (h : TS T (callF T n) Γ fn.body w (PFx fn e os)) : FX (callF T (n + 1)) f ps e os (fun a => w (st a)) := ⟨fun a v hv' => by
  obtain ⟨fl, r', h1, h2⟩ := h.h _ _ v (hst a) hv'
  rw [call_eq T n f fn (encA ps a) hT (by rw [encA_len, hp]), h1]
  exact h2⟩
end
end Cw.J
end

section
namespace Cw.J
open PySem
theorem o_add (x y v : Int) (h : some (x + y) = some v) : BinR .add (eI x) (eI y) (eI v) := by cases h; exact b_add x y
theorem o_sub (x y v : Int) (h : some (x - y) = some v) : BinR .sub (eI x) (eI y) (eI v) := by cases h; exact b_sub x y
theorem o_mul (x y v : Int) (h : mulO x y = some v) : BinR .mul (eI x) (eI y) (eI v) := b_mulO h
theorem o_fdiv (x y v : Int) (h : fdivO x y = some v) : BinR .fdiv (eI x) (eI y) (eI v) := b_fdivO h
theorem o_mod (x y v : Int) (h : modO x y = some v) : BinR .mod (eI x) (eI y) (eI v) := b_modO h
def powO (a b : Int) : Option Int := if 0 ≤ b ∧ b ≤ 1000000 ∧ a.natAbs < 2 ^ 64 then some (a ^ b.toNat) else none
theorem o_pow (x y v : Int) (h : powO x y = some v) : BinR .pow (eI x) (eI y) (eI v) := ⟨by
  unfold powO at h
  split at h
  · rename_i hc
    cases h
    simp only [eI, binD, hc, and_self, if_true]
  · cases h⟩
section
variable {α β δ : Type} {e : α → D} {e1 : β → D} {e2 : δ → D} {n : Nat}
theorem o_catL (x y v : List α) (h : catO x y = some v) : BinR .add (eL e x) (eL e y) (eL e v) := cat_L h
theorem o_catT (x y v : List α) (h : catO x y = some v) : BinR .add (eT e x) (eT e y) (eT e v) := cat_T h
theorem i_L (xs : List α) (i : Int) (v : α) (h : L2.atI xs i = some v) : IdxR (eL e xs) (eI i) (e v) := ix_L h
theorem i_T (xs : List α) (i : Int) (v : α) (h : L2.atI xs i = some v) : IdxR (eT e xs) (eI i) (e v) := ix_T h
theorem i_P2_0 (p : β × δ) : IdxR (eP2 e1 e2 p) (.int 0) (e1 p.1) := ⟨rfl⟩
theorem i_P2_1 (p : β × δ) : IdxR (eP2 e1 e2 p) (.int 1) (e2 p.2) := ⟨rfl⟩
theorem i_P3_0 {e3 : α → D} (p : β × δ × α) : IdxR (eP3 e1 e2 e3 p) (.int 0) (e1 p.1) := ⟨rfl⟩
theorem i_P3_1 {e3 : α → D} (p : β × δ × α) : IdxR (eP3 e1 e2 e3 p) (.int 1) (e2 p.2.1) := ⟨rfl⟩
theorem i_P3_2 {e3 : α → D} (p : β × δ × α) : IdxR (eP3 e1 e2 e3 p) (.int 2) (e3 p.2.2) := ⟨rfl⟩
theorem s_L (xs : List α) (i : Int) (v : α) (ys : List α) (h : setO xs i v = some ys) : setD (eL e xs) (eI i) (e v) = some (eL e ys) := set_L h
theorem bl_len (xs : List α) (v : Int) (h : some (xs.length : Int) = some v) : BiR .len [eL e xs] (eI v) := by cases h; exact len_L xs
theorem bt_len (xs : List α) (v : Int) (h : some (xs.length : Int) = some v) : BiR .len [eT e xs] (eI v) := by cases h; exact len_T xs
theorem bp2_len (p : β × δ) (v : Int) (h : some (2 : Int) = some v) : BiR .len [eP2 e1 e2 p] (eI v) := by cases h; exact ⟨rfl⟩
theorem bp3_len {e3 : α → D} (p : β × δ × α) (v : Int) (h : some (3 : Int) = some v) : BiR .len [eP3 e1 e2 e3 p] (eI v) := by cases h; exact ⟨rfl⟩
theorem b_int (x v : Int) (h : some x = some v) : BiR .int [eI x] (eI v) := by cases h; exact bi_int x
theorem bl_list (xs v : List α) (h : some xs = some v) : BiR .list [eL e xs] (eL e v) := by cases h; exact lst_L xs
theorem bt_list (xs v : List α) (h : some xs = some v) : BiR .list [eT e xs] (eL e v) := by cases h; exact lst_T xs
theorem bl_tup (xs v : List α) (h : some xs = some v) : BiR .tuple [eL e xs] (eT e v) := by cases h; exact tup_L xs
theorem bt_tup (xs v : List α) (h : some xs = some v) : BiR .tuple [eT e xs] (eT e v) := by cases h; exact tup_T xs
theorem bl_sum (xs : List Int) (v : Int) (h : some xs.sum = some v) : BiR .sum [eL eI xs] (eI v) := by cases h; exact bi_sum xs
theorem bt_sum (xs : List Int) (v : Int) (h : some xs.sum = some v) : BiR .sum [eT eI xs] (eI v) := by cases h; exact bi_sumT xs
theorem bl_all (xs : List Bool) (v : Bool) (h : some (xs.all id) = some v) : BiR .all [eL eB xs] (eB v) := by cases h; exact bi_all xs
theorem bl_any (xs : List Bool) (v : Bool) (h : some (xs.any id) = some v) : BiR .any [eL eB xs] (eB v) := by cases h; exact bi_any xs
theorem b_abs (x v : Int) (h : some (if x < 0 then -x else x) = some v) : BiR .abs [eI x] (eI v) := by cases h; exact ⟨rfl⟩
theorem b_min2 (x y v : Int) (h : some (min x y) = some v) : BiR .min2 [eI x, eI y] (eI v) := by cases h; exact bi_min2 x y
theorem b_max2 (x y v : Int) (h : some (max x y) = some v) : BiR .max2 [eI x, eI y] (eI v) := by cases h; exact bi_max2 x y
def minI : List Int → Option Int
  | [] => none
  | n :: ns => some (ns.foldl min n)
def maxI : List Int → Option Int
  | [] => none
  | n :: ns => some (ns.foldl max n)
theorem bl_minI (xs : List Int) (v : Int) (h : minI xs = some v) : BiR .min1 [eL eI xs] (eI v) := by
  cases xs with
  | nil => cases h
  | cons n ns => cases h; exact bi_min1 n ns
theorem bl_maxI (xs : List Int) (v : Int) (h : maxI xs = some v) : BiR .max1 [eL eI xs] (eI v) := by
  cases xs with
  | nil => cases h
  | cons n ns => cases h; exact bi_max1 n ns
theorem bt_minI (xs : List Int) (v : Int) (h : minI xs = some v) : BiR .min1 [eT eI xs] (eI v) := by
  cases xs with
  | nil => cases h
  | cons n ns => cases h; exact bi_min1T n ns
theorem bt_maxI (xs : List Int) (v : Int) (h : maxI xs = some v) : BiR .max1 [eT eI xs] (eI v) := by
  cases xs with
  | nil => cases h
  | cons n ns => cases h; exact bi_max1T n ns
theorem th_L (xs : List α) : Trth (eL e xs) (!xs.isEmpty) := ⟨by
  show some (!(xs.map e).isEmpty) = _
  cases xs <;> rfl⟩
theorem th_T (xs : List α) : Trth (eT e xs) (!xs.isEmpty) := ⟨by
  show some (!(xs.map e).isEmpty) = _
  cases xs <;> rfl⟩
theorem th_I (x : Int) : Trth (eI x) (x != 0) := t_i x
theorem mt_L (x : List α) : isMut (eL e x) = true := rfl
theorem nm_I (kk : Nat) (x : Int) : (kk == 1 && isMut (eI x)) = false := by simp [eI, isMut]
theorem nm_T (kk : Nat) (x : List α) : (kk == 1 && isMut (eT e x)) = false := by simp [eT, isMut]
theorem nm_imm (h : ImmE e) (kk : Nat) (x : α) : (kk == 1 && isMut (e x)) = false := by
  have q := h x
  cases hx : e x <;> rw [hx] at q <;> first | (simp [isMut]; done) | (simp [imm] at q; done)
theorem fr_imm (h : ImmE e) (a b : Nat) (x : α) : (a == 0 || b == 1 || imm (e x)) = true := by rw [h x]; simp
def noV {α β : Type} : List α → Option (List β)
  | [] => some []
  | _ => none
theorem na_VL {e1 : β → D} {e2 : δ → D} (x : List β) (y : List δ) (h : noV x = some y) : eL e1 x = eL e2 y := by
  cases x with
  | nil => cases h; rfl
  | cons _ _ => cases h
theorem na_VT {e1 : β → D} {e2 : δ → D} (x : List β) (y : List δ) (h : noV x = some y) : eT e1 x = eT e2 y := by
  cases x with
  | nil => cases h; rfl
  | cons _ _ => cases h
def un2 {α : Type} : List α → Option (α × α)
  | [a, b] => some (a, b)
  | _ => none
def un3 {α : Type} : List α → Option (α × α × α)
  | [a, b, c] => some (a, b, c)
  | _ => none
theorem na_TP2 (x : List α) (y : α × α) (h : un2 x = some y) : eT e x = eP2 e e y := by
  unfold un2 at h
  split at h
  · cases h; rfl
  · cases h
theorem na_TP3 (x : List α) (y : α × α × α) (h : un3 x = some y) : eT e x = eP3 e e e y := by
  unfold un3 at h
  split at h
  · cases h; rfl
  · cases h
theorem co_L {e1 : β → D} {e2 : δ → D} {f : β → δ} (h : ∀ x, e1 x = e2 (f x)) (x : List β) : eL e1 x = eL e2 (x.map f) := by
  simp only [eL, List.map_map]
  congr 1
  exact List.map_congr_left fun a _ => h a
theorem co_T {e1 : β → D} {e2 : δ → D} {f : β → δ} (h : ∀ x, e1 x = e2 (f x)) (x : List β) : eT e1 x = eT e2 (x.map f) := by
  simp only [eT, List.map_map]
  congr 1
  exact List.map_congr_left fun a _ => h a
theorem co_OO {e1 : β → D} {e2 : δ → D} {f : β → δ} (h : ∀ x, e1 x = e2 (f x)) (x : Option β) : eO e1 x = eO e2 (x.map f) := by
  cases x with
  | none => rfl
  | some v => exact h v
theorem co_P2 {α' : Type} {e' : α' → D} {e1 : β → D} {e2 : δ → D} {f : β → δ} {g : α → α'} (h : ∀ x, e1 x = e2 (f x)) (hg : ∀ x, e x = e' (g x)) (x : β × α) : eP2 e1 e x = eP2 e2 e' (f x.1, g x.2) := by
  simp only [eP2, h, hg]
theorem co_P3 {α' γ' γ : Type} {e' : α' → D} {e1 : β → D} {e2 : δ → D} {e3 : γ → D} {e4 : γ' → D} {f : β → δ} {g : α → α'} {k : γ → γ'} (h : ∀ x, e1 x = e2 (f x)) (hg : ∀ x, e x = e' (g x)) (hk : ∀ x, e3 x = e4 (k x)) (x : β × α × γ) : eP3 e1 e e3 x = eP3 e2 e' e4 (f x.1, g x.2.1, k x.2.2) := by
  simp only [eP3, h, hg, hk]
theorem co_P2T {e1 : β → D} {e2 : δ → D} {f : β → α} {g : δ → α} (h : ∀ x, e1 x = e (f x)) (hg : ∀ x, e2 x = e (g x)) (x : β × δ) : eP2 e1 e2 x = eT e [f x.1, g x.2] := by
  simp only [eP2, eT, h, hg, List.map_cons, List.map_nil]
theorem co_P3T {γ : Type} {e1 : β → D} {e2 : δ → D} {e3 : γ → D} {f : β → α} {g : δ → α} {k : γ → α} (h : ∀ x, e1 x = e (f x)) (hg : ∀ x, e2 x = e (g x)) (hk : ∀ x, e3 x = e (k x)) (x : β × δ × γ) : eP3 e1 e2 e3 x = eT e [f x.1, g x.2.1, k x.2.2] := by
  simp only [eP3, eT, h, hg, hk, List.map_cons, List.map_nil]
theorem th_O {f : α → Bool} (h : ∀ x, Trth (e x) (f x)) (x : Option α) : Trth (eO e x) (match x with | none => false | some v => f v) := by
  cases x with
  | none => exact ⟨rfl⟩
  | some v => exact h v
theorem c_isnU (x y : Unit) : CmpR .isn (eU x) (eU y) true := ⟨rfl⟩
theorem c_ntnU (x y : Unit) : CmpR .ntn (eU x) (eU y) false := ⟨rfl⟩
theorem n_I (x : Int) : isNon (eI x) = false := rfl
theorem n_B (x : Bool) : isNon (eB x) = false := rfl
theorem n_L (x : List α) : isNon (eL e x) = false := rfl
theorem n_T (x : List α) : isNon (eT e x) = false := rfl
theorem n_P2 (x : β × δ) : isNon (eP2 e1 e2 x) = false := rfl
theorem n_P3 {e3 : α → D} (x : β × δ × α) : isNon (eP3 e1 e2 e3 x) = false := rfl
theorem c_isnO (h : ∀ x, isNon (e x) = false) (x : Option α) (y : Unit) : CmpR .isn (eO e x) (eU y) x.isNone := ⟨by
  cases x with
  | none => rfl
  | some v => show some (isNon (e v)) = _; rw [h v]; rfl⟩
theorem c_ntnO (h : ∀ x, isNon (e x) = false) (x : Option α) (y : Unit) : CmpR .ntn (eO e x) (eU y) x.isSome := ⟨by
  cases x with
  | none => rfl
  | some v => show some (!isNon (e v)) = _; rw [h v]; rfl⟩
theorem c_isnF (h : ∀ x, isNon (e x) = false) (x : α) (y : Unit) : CmpR .isn (e x) (eU y) false := ⟨by
  show some (isNon (e x)) = _
  rw [h x]⟩
theorem c_ntnF (h : ∀ x, isNon (e x) = false) (x : α) (y : Unit) : CmpR .ntn (e x) (eU y) true := ⟨by
  show some (!isNon (e x)) = _
  rw [h x]; rfl⟩
theorem nc_U : Nice eU 1 := ⟨fun _ => rfl, fun _ => by simp [eU, PyData.depth], fun x y => rfl⟩
theorem eqv_none (d : D) (h : isNon d = false) : PyData.eqv .none d = false ∧ PyData.eqv d .none = false := by
  cases d <;> first | (cases h; done) | exact ⟨rfl, rfl⟩ | (constructor <;> simp [PyData.eqv])
theorem nc_O [BEq α] (h : Nice e n) (hn : ∀ x, isNon (e x) = false) (h1 : 1 ≤ n) : Nice (eO e) n := ⟨fun x => by cases x; rfl; exact h.plain _, fun x => by
  cases x with
  | none => simp [eO, PyData.depth, h1]
  | some v => exact h.depth v, fun x y => by
  cases x with
  | none => cases y with
    | none => rfl
    | some v => exact (eqv_none _ (hn v)).1
  | some u => cases y with
    | none => exact (eqv_none _ (hn u)).2
    | some v => exact h.eqv u v⟩
theorem nc_P3 [BEq α] [BEq β] [BEq δ] {e3 : α → D} {n1 n2 n3 : Nat} (h : Nice e1 n1) (h2 : Nice e2 n2) (h3 : Nice e3 n3) : Nice (eP3 e1 e2 e3) (max n1 (max n2 n3) + 1) := ⟨fun p => by simp [eP3, PyData.plain, PyData.plainAll, h.plain, h2.plain, h3.plain], fun p => by
  have a := h.depth p.1
  have b := h2.depth p.2.1
  have c := h3.depth p.2.2
  simp only [eP3, PyData.depth, PyData.depthAll]; omega, fun p q => by
  simp only [eP3, PyData.eqv, PyData.eqvAll, h.eqv, h2.eqv, h3.eqv, Bool.and_true]; rfl⟩
theorem r_ninL [BEq α] (h : Nice e n) (hn : n ≤ 60) (x : α) (xs : List α) : CmpR .nin (e x) (eL e xs) (!xs.any fun y => y == x) := ⟨by
  show (inD (e x) (eL e xs)).map (!·) = _
  rw [show inD (e x) (eL e xs) = _ from (r_inL h hn x xs).h]; rfl⟩
theorem r_ninT [BEq α] (h : Nice e n) (hn : n ≤ 60) (x : α) (xs : List α) : CmpR .nin (e x) (eT e xs) (!xs.any fun y => y == x) := ⟨by
  show (inD (e x) (eT e xs)).map (!·) = _
  rw [show inD (e x) (eT e xs) = _ from (r_inT h hn x xs).h]; rfl⟩
end
section
variable {T : Nat → Option Fn} {c : Nat → List D → OutC} {μ : Mu} {α β : Type} {e1 : α → D} {e2 : β → D} {Γ : List K} {a : ME}
theorem te_idxK {k : Int} {f : α → β} {da : HL Γ → Option α} (h : ∀ x, IdxR (e1 x) (.int k) (e2 (f x))) (ha : TE T c μ Γ a e1 da) : TE T c μ Γ (.idx a (.con (.int k))) e2 (fun γ => (da γ).bind fun x => some (f x)) := ⟨fun γ r v hr hv => by
  obtain ⟨x, hx, hv⟩ := bs hv
  cases hv
  exact ev_idx (ha.h γ r x hr hx) ev_con (h x)⟩
theorem tx_idxK {k : Int} {f : α → β} {da : HL Γ → Option (α × HL Γ)} (h : ∀ x, IdxR (e1 x) (.int k) (e2 (f x))) (ha : TX T c Γ a e1 da) : TX T c Γ (.idx a (.con (.int k))) e2 (fun γ => (da γ).bind fun p => some (f p.1, p.2)) := ⟨fun γ r v hr hv => by
  obtain ⟨x, hx, hv⟩ := bs hv
  cases hv
  obtain ⟨r1, a1, a2⟩ := ha.h γ r x hr hx
  exact ⟨r1, by simp only [evE, a1, b_ok, (h _).h, lift_some], a2⟩⟩
end
end Cw.J
namespace Cw.J
open PySem
theorem tg_co {α β : Type} {e1 : α → D} {e2 : β → D} {Γ Γ' : List K} {t : Tg} {b : β → HL Γ → Option (HL Γ')} (co : α → β) (hc : ∀ x, e1 x = e2 (co x)) (h : TG Γ t e2 Γ' b) : TG Γ t e1 Γ' (fun x γ => b (co x) γ) := ⟨fun x γ γ' r hr hb => by
  rw [hc]
  exact h.h _ _ _ _ hr hb⟩
theorem tc_someT {T : Nat → Option Fn} {c : Nat → List D → OutC} {μ : Mu} {Γ : List K} {m : ME} {α : Type} {e : α → D} {f : α → Bool} {d : HL Γ → Option α} (ht : ∀ x, Trth (e x) (f x)) (h : TE T c μ Γ m e d) : TC T c μ Γ (some m) (fun γ => (d γ).bind fun x => some (f x)) := ⟨fun γ r v hr hv => by
  obtain ⟨x, hx, hv⟩ := bs hv
  cases hv
  exact c_some (h.h γ r x hr hx) (ht x)⟩
end Cw.J
namespace Cw.J
open PySem
section
variable {T : Nat → Option Fn} {c : Nat → List D → OutC} {α β R : Type} {e1 : α → D} {e2 : β → D} {Γ Γ1 Γ2 : List K} {a b : ME} {ss : List MS} {P : R → Flow → Env → Prop}
theorem ts_par {i j : Nat} {up1 : α → HL Γ → HL Γ1} {up2 : β → HL Γ1 → HL Γ2} {da : HL Γ → Option α} {db : HL Γ → Option β} {w : HL Γ2 → Option R} (ha : TE T c .p Γ a e1 da) (hb : TE T c .p Γ b e2 db) (h1 : Up Γ Γ1 i e1 up1) (h2 : Up Γ1 Γ2 j e2 up2) (hs : TS T c Γ2 ss w P) : TS T c Γ (.par i j a b :: ss) (fun γ => (da γ).bind fun x => (db γ).bind fun y => w (up2 y (up1 x γ))) P := ⟨fun γ r v hr hv => by
  obtain ⟨x, hx, hv⟩ := bs hv
  obtain ⟨y, hy, hv⟩ := bs hv
  have e1' := (ha.h γ r x hr hx).h
  have e2' := (hb.h γ r y hr hy).h
  refine run_nx (r1 := (r.set i (.val (e1 x))).set j (.val (e2 y))) ?_ (hs.h _ _ v (h2.h _ _ _ (h1.h _ _ _ hr)) hv)
  have hp : mu .p r = prtA r := rfl
  rw [hp] at e1' e2'
  simp only [evS, evEs, e1', e2', b_ok]
  rfl⟩
end
end Cw.J
namespace Cw.J
open PySem
section
variable {T : Nat → Option Fn} {c : Nat → List D → OutC} {R : Type} {Γ Γ1 : List K} {m kx : ME} {md : Md} {ss : List MS} {P : R → Flow → Env → Prop}
theorem ts_augS {i : Nat} {op : BOp} {f : Int → Int → Int} {g0 : HL Γ → List Int} {up0 : List Int → HL Γ → HL Γ} {dk : HL Γ → Option Int} {d : HL Γ → (Int → HL Γ1 → Option R) → Option R} {g : HL Γ1 → List Int} {up : List Int → HL Γ1 → HL Γ1} {w : HL Γ1 → Option R}
    (ho : ∀ x y, inplD op (.int x) (.int y) = some (.int (f x y))) (hu0 : UpM Γ i (eL eI) g0 up0) (hx : TE T c .p Γ kx eI dk) (hm : TM T c Γ 0 md m eI Γ1 d) (hu : UpM Γ1 i (eL eI) g up) (hs : TS T c Γ1 ss w P) :
    TS T c Γ (.augS i kx op md m :: ss) (fun γ => (dk γ).bind fun k => (L2.atI (g0 γ) k).bind fun x => d γ fun y γ1 => (setO (g γ1) k (f x y)).bind fun ys => w (up ys γ1)) P := ⟨fun γ r v hr hv => by
  obtain ⟨k, hk, hv⟩ := bs hv
  obtain ⟨x, hx', hv⟩ := bs hv
  obtain ⟨y, γ', r', h1, h2, h3⟩ := hm.h γ r _ v hr hv
  obtain ⟨ys, hy, h3⟩ := bs h3
  obtain ⟨u1, u2⟩ := hu.h γ' r' h2
  have a1 := (hu0.h γ r hr).1
  have a2 : evM T c 0 (.keep []) kx r = .ok (.int k) r := m_keep (hx.h γ r k hr hk)
  have a3 : idxD (eL eI (g0 γ)) (.int k) = some (.int x) := (ix_L hx').h
  have a4 : setD (eL eI (g γ')) (.int k) (.int (f x y)) = some (eL eI ys) := set_L hy
  refine run_nx (r1 := putM r' i (eL eI ys)) ?_ (hs.h _ _ v (u2 ys) h3)
  simp only [evS, a1, lift_some, b_ok, a2, a3, h1, eI, ho, u1, a4]⟩
end
end Cw.J
end

section
namespace Cw.J
open PySem
def enumL {α : Type} : Int → List α → List (Int × α)
  | _, [] => []
  | k, x :: xs => (k, x) :: enumL (k + 1) xs
section
variable {α β δ : Type} {e : α → D} {e2 : β → D}
theorem enum_get : ∀ (k : Int) (xs : List α) (i : Nat), (enumL k xs)[i]? = (xs[i]?).map fun x => (k + (i : Nat), x)
  | _, [], _ => rfl
  | k, x :: xs, 0 => by simp [enumL]
  | k, x :: xs, i + 1 => by
    simp only [enumL, List.getElem?_cons_succ, enum_get (k + 1) xs i]
    congr 1
    funext y
    simp only [Prod.mk.injEq, and_true]
    omega
theorem enum_map (xs : List α) : ((List.range (xs.map e).length).map fun i => PyData.tuple [.int (i : Nat), (xs.map e).getD i .none]) = (enumL 0 xs).map (eP2 eI e) := by
  apply List.ext_getElem?
  intro i
  rw [List.getElem?_map, List.getElem?_map, enum_get]
  by_cases h : i < xs.length
  · rw [List.getElem?_range (by simpa using h), List.getElem?_eq_getElem h]
    simp [eP2, List.getD_eq_getElem?_getD, h]
  · rw [List.getElem?_eq_none (by simpa using h), List.getElem?_eq_none (Nat.le_of_not_lt h)]
    rfl
theorem enum_L (xs : List α) : enumD (eL e xs) = some (eL (eP2 eI e) (enumL 0 xs)) := by
  show some (PyData.list _) = _
  rw [enum_map]; rfl
theorem enum_T (xs : List α) : enumD (eT e xs) = some (eL (eP2 eI e) (enumL 0 xs)) := by
  show some (PyData.list _) = _
  rw [enum_map]; rfl
theorem zip_N (xs : List α) (ys : List β) : zipD (eL e xs) (eT e2 ys) = some (eL (eP2 e e2) (xs.zip ys)) := by
  show some (PyData.list (((xs.map e).zip (ys.map e2)).map fun p => .tuple [p.1, p.2])) = some (PyData.list ((xs.zip ys).map (eP2 e e2)))
  rw [List.zip_map, List.map_map]; rfl
end
def mx3 (x y z : Int) : Int := max (max x y) z
def mn3 (x y z : Int) : Int := min (min x y) z
def mx4 (x y z v : Int) : Int := max (max (max x y) z) v
theorem big2_max (x y : Int) : big2 x y = max x y := by unfold big2; split <;> omega
theorem sml2_min (x y : Int) : sml2 x y = min x y := by unfold sml2; split <;> omega
section
variable {T : Nat → Option Fn} {c : Nat → List D → OutC} {μ : Mu} {Γ : List K} {a b m m2 : ME} {α : Type} {e : α → D}
theorem te_max3 {da db dc : HL Γ → Option Int} (ha : TE T c μ Γ a eI da) (hb : TE T c μ Γ b eI db) (hc : TE T c μ Γ m eI dc) : TE T c μ Γ (.bi .max3 [a, b, m]) eI (fun γ => (da γ).bind fun x => (db γ).bind fun y => (dc γ).bind fun z => some (mx3 x y z)) := ⟨fun γ r v hr hv => by
  obtain ⟨x, hx, hv⟩ := bs hv
  obtain ⟨y, hy, hv⟩ := bs hv
  obtain ⟨z, hz, hv⟩ := bs hv
  cases hv
  refine ev_bi (evs_cons (ha.h γ r x hr hx) (evs_cons (hb.h γ r y hr hy) (evs_cons (hc.h γ r z hr hz) evs_nil))) ⟨?_⟩
  show some (PyData.int (big2 (big2 x y) z)) = _
  rw [big2_max, big2_max]; rfl⟩
theorem te_min3 {da db dc : HL Γ → Option Int} (ha : TE T c μ Γ a eI da) (hb : TE T c μ Γ b eI db) (hc : TE T c μ Γ m eI dc) : TE T c μ Γ (.bi .min3 [a, b, m]) eI (fun γ => (da γ).bind fun x => (db γ).bind fun y => (dc γ).bind fun z => some (mn3 x y z)) := ⟨fun γ r v hr hv => by
  obtain ⟨x, hx, hv⟩ := bs hv
  obtain ⟨y, hy, hv⟩ := bs hv
  obtain ⟨z, hz, hv⟩ := bs hv
  cases hv
  refine ev_bi (evs_cons (ha.h γ r x hr hx) (evs_cons (hb.h γ r y hr hy) (evs_cons (hc.h γ r z hr hz) evs_nil))) ⟨?_⟩
  show some (PyData.int (sml2 (sml2 x y) z)) = _
  rw [sml2_min, sml2_min]; rfl⟩
theorem te_max4 {da db dc dd : HL Γ → Option Int} (ha : TE T c μ Γ a eI da) (hb : TE T c μ Γ b eI db) (hc : TE T c μ Γ m eI dc) (hd : TE T c μ Γ m2 eI dd) : TE T c μ Γ (.bi .max4 [a, b, m, m2]) eI (fun γ => (da γ).bind fun x => (db γ).bind fun y => (dc γ).bind fun z => (dd γ).bind fun w => some (mx4 x y z w)) := ⟨fun γ r v hr hv => by
  obtain ⟨x, hx, hv⟩ := bs hv
  obtain ⟨y, hy, hv⟩ := bs hv
  obtain ⟨z, hz, hv⟩ := bs hv
  obtain ⟨w, hw, hv⟩ := bs hv
  cases hv
  refine ev_bi (evs_cons (ha.h γ r x hr hx) (evs_cons (hb.h γ r y hr hy) (evs_cons (hc.h γ r z hr hz) (evs_cons (hd.h γ r w hr hw) evs_nil)))) ⟨?_⟩
  show some (PyData.int (big2 (big2 (big2 x y) z) w)) = _
  rw [big2_max, big2_max, big2_max]; rfl⟩
theorem te_lensL {da : HL Γ → Option (List Int)} (ha : TE T c μ Γ a (eL eI) da) : TE T c μ Γ (.lens a) eI (fun γ => (da γ).bind fun x => lensI x) := ⟨fun γ r v hr hv => by
  obtain ⟨x, hx, hv⟩ := bs hv
  have q : lensD (eL eI x) = some (eI v) := by
    show (intsD (x.map PyData.int)).bind _ = _
    rw [intsD_map]
    show (lensI x).map PyData.int = _
    rw [hv]; rfl
  constructor
  simp only [evE, (ha.h γ r x hr hx).h, b_ok, q, lift_some]⟩
theorem te_lensT {da : HL Γ → Option (List Int)} (ha : TE T c μ Γ a (eT eI) da) : TE T c μ Γ (.lens a) eI (fun γ => (da γ).bind fun x => lensI x) := ⟨fun γ r v hr hv => by
  obtain ⟨x, hx, hv⟩ := bs hv
  have q : lensD (eT eI x) = some (eI v) := by
    show (intsD (x.map PyData.int)).bind _ = _
    rw [intsD_map]
    show (lensI x).map PyData.int = _
    rw [hv]; rfl
  constructor
  simp only [evE, (ha.h γ r x hr hx).h, b_ok, q, lift_some]⟩
theorem te_gcd' {x : Str} {da db : HL Γ → Option Int} (ha : TE T c μ Γ a eI da) (hb : TE T c μ Γ b eI db) : TE T c μ Γ (.gcd x a b) eI (fun γ => (da γ).bind fun x => (db γ).bind fun y => some (gcdI x y)) := ⟨fun γ r v hr hv => by
  obtain ⟨x, hx, hv⟩ := bs hv
  obtain ⟨y, hy, hv⟩ := bs hv
  cases hv
  constructor
  simp only [evE, (ha.h γ r x hr hx).h, (hb.h γ r y hr hy).h, b_ok]
  rfl⟩
/-- max(xs, default=k) -/
def maxdI (k : Int) : List Int → Int
  | [] => k
  | n :: ns => ns.foldl max n
theorem te_maxdI {k : Int} {da : HL Γ → Option (List Int)} (ha : TE T c μ Γ a (eL eI) da) : TE T c μ Γ (.maxd a k) eI (fun γ => (da γ).bind fun x => some (maxdI k x)) := ⟨fun γ r v hr hv => by
  obtain ⟨x, hx, hv⟩ := bs hv
  cases hv
  have q : maxdD k (eL eI x) = some (eI (maxdI k x)) := by
    cases x with
    | nil => rfl
    | cons n ns =>
      have := (bi_max1 n ns).h
      have z : biD .max1 [.list ((n :: ns).map PyData.int)] = maxdD k (.list ((n :: ns).map PyData.int)) := rfl
      exact z.symm.trans this
  constructor
  simp only [evE, (ha.h γ r x hr hx).h, b_ok, q, lift_some]⟩
def idxI (ns : List Int) (k : Int) : Option Int := if ns.contains k then some (ns.idxOf k : Nat) else none
theorem te_idxL {da : HL Γ → Option (List Int)} {db : HL Γ → Option Int} (ha : TE T c μ Γ a (eL eI) da) (hb : TE T c μ Γ b eI db) : TE T c μ Γ (.mt .index a [b]) eI (fun γ => (da γ).bind fun x => (db γ).bind fun y => idxI x y) := ⟨fun γ r v hr hv => by
  obtain ⟨x, hx, hv⟩ := bs hv
  obtain ⟨y, hy, hv⟩ := bs hv
  have q : mtD .index (eL eI x) [eI y] = some (eI v) := by
    show (intsD (x.map PyData.int)).bind _ = _
    rw [intsD_map]
    unfold idxI at hv
    show (if x.contains y then some (PyData.int (x.idxOf y : Nat)) else none) = _
    split at hv
    · rename_i h
      cases hv
      rw [if_pos h]
    · cases hv
  constructor
  have e1 := (ha.h γ r x hr hx).h
  have e2 := (hb.h γ r y hr hy).h
  have sq : seqD (eL eI x) = some (eL eI x) := rfl
  simp only [evE, evEs, e1, sq, lift_some, b_ok, e2, q]⟩
theorem te_cntL {da : HL Γ → Option (List Int)} {db : HL Γ → Option Int} (ha : TE T c μ Γ a (eL eI) da) (hb : TE T c μ Γ b eI db) : TE T c μ Γ (.mt .count a [b]) eI (fun γ => (da γ).bind fun x => (db γ).bind fun y => some (x.count y : Nat)) := ⟨fun γ r v hr hv => by
  obtain ⟨x, hx, hv⟩ := bs hv
  obtain ⟨y, hy, hv⟩ := bs hv
  cases hv
  have q : mtD .count (eL eI x) [eI y] = some (eI (x.count y : Nat)) := by
    show (intsD (x.map PyData.int)).bind _ = _
    rw [intsD_map]
    rfl
  constructor
  have e1 := (ha.h γ r x hr hx).h
  have e2 := (hb.h γ r y hr hy).h
  have sq : seqD (eL eI x) = some (eL eI x) := rfl
  simp only [evE, evEs, e1, sq, lift_some, b_ok, e2, q]⟩
end
/-- all there -/
def allO {α : Type} : List (Option α) → Option (List α)
  | [] => some []
  | none :: _ => none
  | some x :: xs => (allO xs).map (x :: ·)
theorem na_LO {α : Type} {e : α → D} : ∀ (x : List (Option α)) (y : List α), allO x = some y → eL (eO e) x = eL e y
  | [], y, h => by cases h; rfl
  | none :: _, y, h => by cases h
  | some v :: xs, y, h => by
    simp only [allO, Option.map_eq_some_iff] at h
    obtain ⟨ys, h1, rfl⟩ := h
    have := na_LO (e := e) xs ys h1
    simp only [eL, PyData.list.injEq] at this ⊢
    simp only [List.map_cons, this]
    rfl
theorem na_TO {α : Type} {e : α → D} (x : List (Option α)) (y : List α) (h : allO x = some y) : eT (eO e) x = eT e y := by
  have := na_LO (e := e) x y h
  simp only [eL, eT, PyData.list.injEq, PyData.tuple.injEq] at this ⊢
  exact this
end Cw.J
end

section
namespace Cw.J
open PySem PySem.W
section
variable {α β : Type} [BEq α] [BEq β] {e : α → D} {e2 : β → D} {n n2 : Nat} {lt : α → α → Bool} {lt2 : β → β → Bool}
/-- the first part decides -/
def ltP2 (lt : α → α → Bool) (lt2 : β → β → Bool) (p q : α × β) : Bool := if p.1 == q.1 then (if p.2 == q.2 then false else lt2 p.2 q.2) else lt p.1 q.1
theorem or_P2 (h : Ordd e n lt) (h2 : Ordd e2 n2 lt2) : Ordd (eP2 e e2) (max n n2 + 1) (ltP2 lt lt2) := { nc_P2 h.toNice h2.toNice with
  alike := fun p q => by
    show PySem.W.alike (.tuple [e p.1, e2 p.2]) (.tuple [e q.1, e2 q.2]) = true
    simp only [PySem.W.alike, alikeAll, h.alike, h2.alike, Bool.and_self]
  non := fun _ => rfl
  lt := fun p q => by
    show dataLt (.tuple [e p.1, e2 p.2]) (.tuple [e q.1, e2 q.2]) = _
    rw [dataLt_pair (h.alike _ _) (h2.alike _ _), h.eqv, h2.eqv, h.lt, h2.lt]
    rfl }
/-- an order in which all are apart -/
structure Lin {α : Type} (lt : α → α → Bool) : Prop where
  irr : ∀ a, lt a a = false
  tr : ∀ a b c, lt b a = false → lt c b = false → lt c a = false
  anti : ∀ a b, lt a b = false → lt b a = false → a = b
  asy : ∀ a b, lt a b = true → lt b a = false
end
theorem ln_I : Lin (fun a b : Int => decide (a < b)) := ⟨fun a => by simp, fun a b c h1 h2 => by simp at *; omega, fun a b h1 h2 => by simp at *; omega, fun a b h => by simp at *; omega⟩
section
variable {α β : Type} [BEq α] [LawfulBEq α] [BEq β] [LawfulBEq β] {lt : α → α → Bool} {lt2 : β → β → Bool}
theorem Lin.tr2 (h : Lin lt) {a b c : α} (h1 : lt a b = true) (h2 : lt b c = true) : lt a c = true := by
  cases q : lt a c with
  | true => rfl
  | false =>
    have := h.tr b c a (h.asy _ _ h2) q
    rw [h1] at this; cases this
theorem ln_P2 (h : Lin lt) (h2 : Lin lt2) : Lin (ltP2 lt lt2) where
  irr := fun a => by simp [ltP2]
  asy := fun a b q => by
    unfold ltP2 at *
    by_cases e : a.1 = b.1
    · rw [e] at q ⊢
      by_cases e' : a.2 = b.2
      · rw [e'] at q; simp at q
      · have e'' : ¬ b.2 = a.2 := fun z => e' z.symm
        simp [e', e''] at q ⊢
        exact h2.asy _ _ q
    · have e'' : ¬ b.1 = a.1 := fun z => e z.symm
      simp [e, e''] at q ⊢
      exact h.asy _ _ q
  anti := fun a b q1 q2 => by
    unfold ltP2 at *
    by_cases e : a.1 = b.1
    · by_cases e' : a.2 = b.2
      · exact Prod.ext e e'
      · have e'' : ¬ b.2 = a.2 := fun z => e' z.symm
        simp [e, e', e''] at q1 q2
        exact absurd (h2.anti _ _ q1 q2) e'
    · have e'' : ¬ b.1 = a.1 := fun z => e z.symm
      simp [e, e''] at q1 q2
      exact absurd (h.anti _ _ q1 q2) e
  tr := fun a b c q1 q2 => by
    unfold ltP2 at *
    by_cases e1 : a.1 = b.1
    · by_cases e2 : b.1 = c.1
      · have e3 : a.1 = c.1 := e1.trans e2
        by_cases f1 : a.2 = b.2
        · rw [f1, e3]; rw [e2] at q2
          by_cases f2 : c.2 = b.2
          · simp [f2]
          · simpa [f2] using q2
        · by_cases f2 : b.2 = c.2
          · rw [← f2]; rw [e1] at q1 ⊢
            have g1 : ¬ b.2 = a.2 := fun z => f1 z.symm
            simp [g1, ← e2] at q1 ⊢; exact q1
          · have g1 : ¬ b.2 = a.2 := fun z => f1 z.symm
            have g2 : ¬ c.2 = b.2 := fun z => f2 z.symm
            simp [e1, e2, g1, g2] at q1 q2
            have := h2.tr _ _ _ q1 q2
            simp [e3, this]
      · have g2 : ¬ c.1 = b.1 := fun z => e2 z.symm
        simp [g2] at q2
        have g3 : ¬ c.1 = a.1 := by rw [e1]; exact g2
        simp only [beq_iff_eq, g3, if_false]
        rw [e1]; exact q2
    · have g1 : ¬ b.1 = a.1 := fun z => e1 z.symm
      simp [g1] at q1
      by_cases e2 : b.1 = c.1
      · rw [← e2]; simp [g1, q1]
      · have g2 : ¬ c.1 = b.1 := fun z => e2 z.symm
        simp [g2] at q2
        have q3 := h.tr _ _ _ q1 q2
        by_cases e3 : c.1 = a.1
        · rw [e3] at q2
          exact absurd (h.anti _ _ q2 q1) e1
        · simp [e3, q3]
theorem ltL_cons (x y : α) (xs ys : List α) : ltL lt (x :: xs) (y :: ys) = if x == y then ltL lt xs ys else lt x y := rfl
theorem ln_L (h : Lin lt) : Lin (ltL lt) where
  irr := fun a => by
    induction a with
    | nil => rfl
    | cons x xs ih => simp [ltL, ih]
  asy := fun a => by
    induction a with
    | nil => intro b _; cases b <;> rfl
    | cons x xs ih =>
      intro b q
      cases b with
      | nil => cases q
      | cons y ys =>
        simp only [ltL_cons] at q ⊢
        by_cases e : x = y
        · subst e; simp only [beq_self_eq_true, if_true] at q ⊢; exact ih _ q
        · have e' : ¬ y = x := fun z => e z.symm
          simp [e, e'] at q ⊢; exact h.asy _ _ q
  anti := fun a => by
    induction a with
    | nil => intro b q1 q2; cases b with
      | nil => rfl
      | cons y ys => cases q1
    | cons x xs ih =>
      intro b q1 q2
      cases b with
      | nil => cases q2
      | cons y ys =>
        simp only [ltL_cons] at q1 q2
        by_cases e : x = y
        · subst e; simp only [beq_self_eq_true, if_true] at q1 q2; rw [ih _ q1 q2]
        · have e' : ¬ y = x := fun z => e z.symm
          simp [e, e'] at q1 q2; exact absurd (h.anti _ _ q1 q2) e
  tr := fun a => by
    induction a with
    | nil => intro b c q1 q2; cases c with
      | nil => rfl
      | cons z zs => rfl
    | cons x xs ih =>
      intro b c q1 q2
      cases c with
      | nil => cases b with
        | nil => cases q1
        | cons y ys => cases q2
      | cons z zs =>
        cases b with
        | nil => cases q1
        | cons y ys =>
          simp only [ltL_cons] at q1 q2 ⊢
          by_cases e1 : x = y
          · subst e1
            by_cases e2 : z = x
            · subst e2; simp only [beq_self_eq_true, if_true] at q1 q2 ⊢; exact ih _ _ q1 q2
            · simp [e2] at q2 ⊢; exact q2
          · have g1 : ¬ y = x := fun z => e1 z.symm
            simp [g1] at q1
            by_cases e2 : z = y
            · subst e2; simp [g1, q1]
            · simp [e2] at q2
              have q3 := h.tr _ _ _ q1 q2
              by_cases e3 : z = x
              · subst e3; exact absurd (h.anti _ _ q1 q2) g1
              · simp [e3, q3]
end
section
variable {α : Type}
def insB (lt : α → α → Bool) (x : α) : List α → List α
  | [] => [x]
  | y :: ys => if lt y x then y :: insB lt x ys else x :: y :: ys
def isort (lt : α → α → Bool) : List α → List α
  | [] => []
  | x :: xs => insB lt x (isort lt xs)
theorem ins_perm (lt : α → α → Bool) (x : α) : ∀ ys : List α, (insB lt x ys).Perm (x :: ys)
  | [] => List.Perm.refl _
  | y :: ys => by
    unfold insB
    split
    · exact ((ins_perm lt x ys).cons y).trans (List.Perm.swap x y ys)
    · exact List.Perm.refl _
theorem sort_perm (lt : α → α → Bool) : ∀ xs : List α, (isort lt xs).Perm xs
  | [] => List.Perm.refl _
  | x :: xs => (ins_perm lt x _).trans ((sort_perm lt xs).cons x)
theorem ins_pw {lt : α → α → Bool} (h : Lin lt) (x : α) : ∀ ys : List α, ys.Pairwise (fun a b => lt b a = false) → (insB lt x ys).Pairwise (fun a b => lt b a = false)
  | [], _ => by simp [insB]
  | y :: ys, hp => by
    unfold insB
    rw [List.pairwise_cons] at hp
    split
    · rename_i hy
      rw [List.pairwise_cons]
      refine ⟨fun z hz => ?_, ins_pw h x ys hp.2⟩
      rcases List.mem_cons.mp ((ins_perm lt x ys).mem_iff.mp hz) with rfl | hz
      · exact h.asy _ _ hy
      · exact hp.1 z hz
    · rename_i hy
      have hy' : lt y x = false := by simpa using hy
      rw [List.pairwise_cons]
      refine ⟨fun z hz => ?_, List.pairwise_cons.mpr hp⟩
      rcases List.mem_cons.mp hz with rfl | hz
      · exact hy'
      · exact h.tr _ _ _ hy' (hp.1 z hz)
theorem sort_pw {lt : α → α → Bool} (h : Lin lt) : ∀ xs : List α, (isort lt xs).Pairwise (fun a b => lt b a = false)
  | [] => List.Pairwise.nil
  | x :: xs => ins_pw h x _ (sort_pw h xs)
/-- the model's sort is the plain one -/
theorem merge_isort {lt : α → α → Bool} (h : Lin lt) (xs : List α) : xs.mergeSort (fun a b => !lt b a) = isort lt xs := by
  refine List.Perm.eq_of_pairwise (le := fun a b => lt b a = false) (fun a b _ _ q1 q2 => h.anti _ _ q2 q1) ?_ (sort_pw h xs) ((List.mergeSort_perm xs _).trans (sort_perm lt xs).symm)
  have := List.pairwise_mergeSort (le := fun a b => !lt b a) (fun a b c q1 q2 => by
    simp only [Bool.not_eq_true'] at *
    exact h.tr _ _ _ q1 q2) (fun a b => by
    cases q : lt b a with
    | false => rfl
    | true => simp [h.asy _ _ q]) xs
  exact this.imp fun q => by simpa using q
variable [BEq α] {e : α → D} {n : Nat} {lt : α → α → Bool}
theorem sortL_map (h : Ordd e n lt) (l : Lin lt) (xs : List α) : sortL (xs.map e) = (isort lt xs).map e := by
  unfold sortL
  rw [← merge_isort l]
  refine (List.map_mergeSort fun a _ b _ => ?_).symm
  show (!lt b a) = !dataLt (e b) (e a)
  rw [h.lt]
/-- values that may stand in a sorted list: no empty tuple -/
structure OkS (e : α → D) (ok : α → Bool) : Prop where
  h : ∀ x, ok x = true → isTupNE (e x) = true
def sortO (lt : α → α → Bool) (ok : α → Bool) (xs : List α) : Option (List α) := if xs.all ok then some (isort lt xs) else none
theorem alike_map (h : Ordd e n lt) (xs : List α) : ((xs.map e).all fun x => (xs.map e).all fun y => PySem.W.alike x y) = true := by
  rw [List.all_eq_true]
  intro x hx
  rw [List.all_eq_true]
  intro y hy
  obtain ⟨a, _, rfl⟩ := List.mem_map.mp hx
  obtain ⟨b, _, rfl⟩ := List.mem_map.mp hy
  exact h.alike a b
theorem bl_sort {ok : α → Bool} (h : Ordd e n lt) (l : Lin lt) (hk : OkS e ok) (hn : n ≤ 60) (xs v : List α) (hv : sortO lt ok xs = some v) : BiR .sorted [eL e xs] (eL e v) := by
  unfold sortO at hv
  split at hv
  · rename_i ha
    cases hv
    constructor
    have hd := nc_depthAll h.toNice xs
    have h2 : (xs.map e).all isTupNE = true := by
      rw [List.all_eq_true] at ha ⊢
      intro x hx
      obtain ⟨a, ha', rfl⟩ := List.mem_map.mp hx
      exact hk.h a (ha a ha')
    have : sortOk (xs.map e) = true := by
      unfold sortOk
      rw [alike_map h xs, h2, Bool.true_or, Bool.and_self, Bool.true_and]
      exact decide_eq_true (by omega)
    show biD .sorted [.list (xs.map e)] = _
    simp only [biD, this, if_true, sortL_map h l]
    rfl
  · cases hv
theorem ok_T {e : α → D} : OkS (eT e) (fun x => !x.isEmpty) := ⟨fun x h => by
  cases x with
  | nil => cases h
  | cons a b => rfl⟩
theorem ok_P2 {β : Type} {e : α → D} {e2 : β → D} : OkS (eP2 e e2) (fun _ => true) := ⟨fun _ _ => rfl⟩
theorem ok_P3 {β δ : Type} {e : α → D} {e2 : β → D} {e3 : δ → D} : OkS (eP3 e e2 e3) (fun _ => true) := ⟨fun _ _ => rfl⟩
theorem bl_sortI (xs v : List Int) (hv : some (isort (fun a b : Int => decide (a < b)) xs) = some v) : BiR .sorted [eL eI xs] (eL eI v) := by
  cases hv
  constructor
  have hd := nc_depthAll nc_I xs
  have h2 : (xs.map eI).all (fun x => !isNon x && !isTup x) = true := by
    rw [List.all_eq_true]
    intro x hx
    obtain ⟨a, _, rfl⟩ := List.mem_map.mp hx
    rfl
  have : sortOk (xs.map eI) = true := by
    unfold sortOk
    rw [alike_map or_I xs, h2, Bool.or_true, Bool.and_self, Bool.true_and]
    exact decide_eq_true (by omega)
  show biD .sorted [.list (xs.map eI)] = _
  simp only [biD, this, if_true, sortL_map or_I ln_I]
  rfl
end
end Cw.J
end

section
namespace Cw.J
open PySem PySem.W PyProof.Rows
section
variable {α β δ : Type} [BEq α] [BEq β] [BEq δ] {e : α → D} {e2 : β → D} {e3 : δ → D} {n n2 n3 : Nat} {lt : α → α → Bool} {lt2 : β → β → Bool} {lt3 : δ → δ → Bool}
theorem or_P3 (h : Ordd e n lt) (h2 : Ordd e2 n2 lt2) (h3 : Ordd e3 n3 lt3) : Ordd (eP3 e e2 e3) (max n (max n2 n3) + 1) (ltP2 lt (ltP2 lt2 lt3)) := { nc_P3 h.toNice h2.toNice h3.toNice with
  alike := fun p q => by
    show PySem.W.alike (.tuple [e p.1, e2 p.2.1, e3 p.2.2]) (.tuple [e q.1, e2 q.2.1, e3 q.2.2]) = true
    simp only [PySem.W.alike, alikeAll, h.alike, h2.alike, h3.alike, Bool.and_self]
  non := fun _ => rfl
  lt := fun p q => by
    have l1 : PyProof.Rows.lexLt itemOrd (keyToksAll [e3 p.2.2]) (keyToksAll [e3 q.2.2]) = if p.2.2 == q.2.2 then false else lt3 p.2.2 q.2.2 := by
      by_cases k : (p.2.2 == q.2.2) = true
      · rw [if_pos k, dataLt_all_yes (h3.alike _ _) (by rw [h3.eqv]; exact k)]
        exact lex_irrefl _
      · rw [if_neg k, dataLt_all_no (h3.alike _ _) (by rw [h3.eqv]; simpa using k)]
        exact h3.lt _ _
    have l2 : PyProof.Rows.lexLt itemOrd (keyToksAll [e2 p.2.1, e3 p.2.2]) (keyToksAll [e2 q.2.1, e3 q.2.2]) = ltP2 lt2 lt3 p.2 q.2 := by
      unfold ltP2
      by_cases k : (p.2.1 == q.2.1) = true
      · rw [if_pos k, dataLt_all_yes (h2.alike _ _) (by rw [h2.eqv]; exact k), l1]
      · rw [if_neg k, dataLt_all_no (h2.alike _ _) (by rw [h2.eqv]; simpa using k)]
        exact h2.lt _ _
    show dataLt (.tuple [e p.1, e2 p.2.1, e3 p.2.2]) (.tuple [e q.1, e2 q.2.1, e3 q.2.2]) = _
    rw [dataLt_tuple]
    conv => rhs; unfold ltP2
    by_cases k : (p.1 == q.1) = true
    · rw [if_pos k, dataLt_all_yes (h.alike _ _) (by rw [h.eqv]; exact k), l2]
      by_cases k2 : (p.2 == q.2) = true
      · rw [if_pos k2]
        have k2' : (p.2.1 == q.2.1) = true ∧ (p.2.2 == q.2.2) = true := by
          have : (p.2.1 == q.2.1 && p.2.2 == q.2.2) = true := k2
          simpa using this
        unfold ltP2
        rw [if_pos k2'.1, if_pos k2'.2]
      · rw [if_neg k2]; rfl
    · rw [if_neg k, dataLt_all_no (h.alike _ _) (by rw [h.eqv]; simpa using k)]
      exact h.lt _ _ }
/-- the first of the least, of the greatest -/
def minB (lt : α → α → Bool) : List α → Option α
  | [] => none
  | x :: xs => some (xs.foldl (fun a y => if lt y a then y else a) x)
def maxB (lt : α → α → Bool) : List α → Option α
  | [] => none
  | x :: xs => some (xs.foldl (fun a y => if lt a y then y else a) x)
theorem alikeB_map (h : Ordd e n lt) (hn : n ≤ 60) (xs : List α) : alikeAllB (xs.map e) = true := by
  unfold alikeAllB
  have hd := nc_depthAll h.toNice xs
  have h2 : (xs.map e).all (fun x => !isNon x) = true := by
    rw [List.all_eq_true]
    intro x hx
    obtain ⟨a, _, rfl⟩ := List.mem_map.mp hx
    rw [h.non]; rfl
  rw [alike_map h xs, h2, Bool.true_and, Bool.true_and]
  exact decide_eq_true (by omega)
theorem minD_map (h : Ordd e n lt) (x : α) (xs : List α) : minD (e x) (xs.map e) = e (xs.foldl (fun a y => if lt y a then y else a) x) := by
  unfold minD
  induction xs generalizing x with
  | nil => rfl
  | cons y ys ih =>
    simp only [List.map_cons, List.foldl_cons, h.lt]
    cases lt y x <;> exact ih _
theorem maxD_map (h : Ordd e n lt) (x : α) (xs : List α) : maxD (e x) (xs.map e) = e (xs.foldl (fun a y => if lt a y then y else a) x) := by
  unfold maxD
  induction xs generalizing x with
  | nil => rfl
  | cons y ys ih =>
    simp only [List.map_cons, List.foldl_cons, h.lt]
    cases lt x y <;> exact ih _
theorem bl_min (h : Ordd e n lt) (hn : n ≤ 60) (xs : List α) (v : α) (hv : minB lt xs = some v) : BiR .min1 [eL e xs] (e v) := by
  cases xs with
  | nil => cases hv
  | cons x xs =>
    cases hv
    have a := alikeB_map h hn (x :: xs)
    constructor
    show biD .min1 [.list ((x :: xs).map e)] = _
    simp only [List.map_cons] at a ⊢
    simp only [biD, a, if_true, minD_map h]
theorem bl_max (h : Ordd e n lt) (hn : n ≤ 60) (xs : List α) (v : α) (hv : maxB lt xs = some v) : BiR .max1 [eL e xs] (e v) := by
  cases xs with
  | nil => cases hv
  | cons x xs =>
    cases hv
    have a := alikeB_map h hn (x :: xs)
    constructor
    show biD .max1 [.list ((x :: xs).map e)] = _
    simp only [List.map_cons] at a ⊢
    simp only [biD, a, if_true, maxD_map h]
theorem bt_min (h : Ordd e n lt) (hn : n ≤ 60) (xs : List α) (v : α) (hv : minB lt xs = some v) : BiR .min1 [eT e xs] (e v) := by
  cases xs with
  | nil => cases hv
  | cons x xs =>
    cases hv
    have a := alikeB_map h hn (x :: xs)
    constructor
    show biD .min1 [.tuple ((x :: xs).map e)] = _
    simp only [List.map_cons] at a ⊢
    simp only [biD, a, if_true, minD_map h]
theorem bt_max (h : Ordd e n lt) (hn : n ≤ 60) (xs : List α) (v : α) (hv : maxB lt xs = some v) : BiR .max1 [eT e xs] (e v) := by
  cases xs with
  | nil => cases hv
  | cons x xs =>
    cases hv
    have a := alikeB_map h hn (x :: xs)
    constructor
    show biD .max1 [.tuple ((x :: xs).map e)] = _
    simp only [List.map_cons] at a ⊢
    simp only [biD, a, if_true, maxD_map h]
end
section
variable {α β δ : Type} [BEq α] [LawfulBEq α] [BEq β] [LawfulBEq β] [BEq δ] [LawfulBEq δ] {lt : α → α → Bool} {lt2 : β → β → Bool} {lt3 : δ → δ → Bool}
theorem ln_P3 (h : Lin lt) (h2 : Lin lt2) (h3 : Lin lt3) : Lin (ltP2 lt (ltP2 lt2 lt3)) := ln_P2 h (ln_P2 h2 h3)
end
end Cw.J
end

section
namespace Cw.J
open PySem
def Gv {α : Type} (o : Option α) (P : α → Prop) : Prop := ∃ v, o = some v ∧ P v
section
variable {α β σ ρ δ : Type} {P Q : α → Prop}
theorem gv_some {v : α} (h : P v) : Gv (some v) P := ⟨v, rfl, h⟩
theorem gv_eq {o : Option α} {v : α} (e : o = some v) (h : P v) : Gv o P := ⟨v, e, h⟩
theorem gv_bind {o : Option β} {f : β → Option α} (h : Gv o fun x => Gv (f x) P) : Gv (o.bind f) P := by
  obtain ⟨x, rfl, v, e, p⟩ := h
  exact ⟨v, e, p⟩
theorem gv_map {o : Option β} {f : β → α} (h : Gv o fun x => P (f x)) : Gv (o.map f) P := by
  obtain ⟨x, rfl, p⟩ := h
  exact ⟨_, rfl, p⟩
theorem gv_mono {o : Option α} (h : Gv o Q) (k : ∀ v, Q v → P v) : Gv o P := by
  obtain ⟨v, e, p⟩ := h
  exact ⟨v, e, k v p⟩
theorem gv_iff {c : Prop} [Decidable c] {a b : Option α} (ha : c → Gv a P) (hb : ¬c → Gv b P) : Gv (if c then a else b) P := by
  split
  · exact ha ‹_›
  · exact hb ‹_›
theorem gv_forO {g : α → σ → Option σ} (I : Nat → σ → Prop) {R : σ → Prop} : ∀ (xs : List α) (j : Nat) (s : σ), I j s → (∀ i x s, x ∈ xs → i < j + xs.length → I i s → Gv (g x s) (I (i + 1))) → (∀ s, I (j + xs.length) s → R s) → Gv (forO g xs s) R
  | [], j, s, h, _, k => ⟨s, rfl, k s h⟩
  | x :: xs, j, s, h, hs, k => by
    obtain ⟨s1, e, h1⟩ := hs j x s List.mem_cons_self (by simp only [List.length_cons]; omega) h
    obtain ⟨s2, e2, h2⟩ := gv_forO I (R := R) xs (j + 1) s1 h1 (fun i y s hy hl => hs i y s (List.mem_cons_of_mem _ hy) (by simp only [List.length_cons]; omega)) (fun s q => k s (by rw [List.length_cons, show j + (xs.length + 1) = j + 1 + xs.length by omega]; exact q))
    exact ⟨s2, by unfold forO; rw [e]; exact e2, h2⟩
/-- a loop that is never left -/
theorem gv_forN {g : α → σ → Option (Fl σ ρ)} (I : Nat → σ → Prop) {R : σ → Prop} : ∀ (xs : List α) (j : Nat) (s : σ), I j s → (∀ i x s, x ∈ xs → I i s → Gv (g x s) fun o => ∃ s', o = .nx s' ∧ I (i + 1) s') → (∀ s, I (j + xs.length) s → R s) → Gv (forG g xs s) fun o => ∃ s', o = .nx s' ∧ R s'
  | [], j, s, h, _, k => ⟨.nx s, rfl, s, rfl, k s h⟩
  | x :: xs, j, s, h, hs, k => by
    obtain ⟨o, e, s1, rfl, h1⟩ := hs j x s List.mem_cons_self h
    obtain ⟨o2, e2, h2⟩ := gv_forN I (R := R) xs (j + 1) s1 h1 (fun i y s hy => hs i y s (List.mem_cons_of_mem _ hy)) (fun s q => k s (by rw [List.length_cons, show j + (xs.length + 1) = j + 1 + xs.length by omega]; exact q))
    exact ⟨o2, by unfold forG; rw [e]; exact e2, h2⟩
/-- a loop that may be left by break -/
theorem gv_forB {g : α → σ → Option (Fl σ ρ)} (I : Nat → σ → Prop) {R : σ → Prop} : ∀ (xs : List α) (j : Nat) (s : σ), I j s → (∀ i x s, x ∈ xs → I i s → i < j + xs.length → Gv (g x s) fun o => (∃ s', o = .nx s' ∧ I (i + 1) s') ∨ ∃ s', o = .brk s' ∧ R s') → (∀ s, I (j + xs.length) s → R s) → Gv (forG g xs s) fun o => ∃ s', o = .nx s' ∧ R s'
  | [], j, s, h, _, k => ⟨.nx s, rfl, s, rfl, k s h⟩
  | x :: xs, j, s, h, hs, k => by
    obtain ⟨o, e, ⟨s1, rfl, h1⟩ | ⟨s1, rfl, h1⟩⟩ := hs j x s List.mem_cons_self h (by simp only [List.length_cons]; omega)
    · obtain ⟨o2, e2, h2⟩ := gv_forB I (R := R) xs (j + 1) s1 h1 (fun i y s hy hi hl => hs i y s (List.mem_cons_of_mem _ hy) hi (by simp only [List.length_cons]; omega)) (fun s q => k s (by rw [List.length_cons, show j + (xs.length + 1) = j + 1 + xs.length by omega]; exact q))
      exact ⟨o2, by unfold forG; rw [e]; exact e2, h2⟩
    · exact ⟨.nx s1, by unfold forG; rw [e], s1, rfl, h1⟩
theorem gv_en {o : Option (Fl σ α)} {w : σ → Option α} (h : Gv o fun o => ∃ s, o = .nx s ∧ Gv (w s) P) : Gv (en o w) P := by
  obtain ⟨_, rfl, s, rfl, p⟩ := h
  exact p
/-- a loop of checks that all hold -/
theorem en_all {g : α → σ → Option (Fl σ ρ)} {w : σ → Option ρ} {xs : List α} {s : σ} {v : ρ} (h : ∀ x ∈ xs, g x s = some (.nx s)) (hw : w s = some v) : en (forG g xs s) w = some v := by
  have : forG g xs s = some (.nx s) := by
    induction xs with
    | nil => rfl
    | cons x xs ih =>
      unfold forG
      rw [h x List.mem_cons_self]
      exact ih fun y hy => h y (List.mem_cons_of_mem _ hy)
  rw [this]
  exact hw
theorem forG_all {g : α → σ → Option (Fl σ ρ)} {xs : List α} {s : σ} (h : ∀ x ∈ xs, g x s = some (.nx s)) : forG g xs s = some (.nx s) := by
  induction xs with
  | nil => rfl
  | cons x xs ih =>
    unfold forG
    rw [h x List.mem_cons_self]
    exact ih fun y hy => h y (List.mem_cons_of_mem _ hy)
theorem forG_congr {g g' : α → σ → Option (Fl σ ρ)} : ∀ {xs : List α} {s : σ}, (∀ x ∈ xs, ∀ s, g x s = g' x s) → forG g xs s = forG g' xs s
  | [], _, _ => rfl
  | x :: xs, s, h => by
    unfold forG
    rw [h x List.mem_cons_self]
    split <;> first | rfl | exact forG_congr fun y hy => h y (List.mem_cons_of_mem _ hy)
theorem forG_map {g : β → σ → Option (Fl σ ρ)} {f : α → β} : ∀ (xs : List α) (s : σ), forG g (xs.map f) s = forG (fun x => g (f x)) xs s
  | [], _ => rfl
  | x :: xs, s => by
    simp only [List.map_cons, forG]
    split <;> first | rfl | exact forG_map xs _
theorem forO_congr {g g' : α → σ → Option σ} : ∀ {xs : List α} {s : σ}, (∀ x ∈ xs, ∀ s, g x s = g' x s) → forO g xs s = forO g' xs s
  | [], _, _ => rfl
  | x :: xs, s, h => by
    unfold forO
    rw [h x List.mem_cons_self]
    split <;> first | rfl | exact forO_congr fun y hy => h y (List.mem_cons_of_mem _ hy)
theorem forO_map {g : β → σ → Option σ} {f : α → β} : ∀ (xs : List α) (s : σ), forO g (xs.map f) s = forO (fun x => g (f x)) xs s
  | [], _ => rfl
  | x :: xs, s => by
    simp only [List.map_cons, forO]
    split <;> first | rfl | exact forO_map xs _
/-- a loop that always goes on -/
theorem forO_fold {g : α → σ → Option σ} {f : σ → α → σ} : ∀ {xs : List α} {s : σ}, (∀ x ∈ xs, ∀ s, g x s = some (f s x)) → forO g xs s = some (xs.foldl f s)
  | [], _, _ => rfl
  | x :: xs, s, h => by
    unfold forO
    rw [h x List.mem_cons_self]
    exact forO_fold fun y hy => h y (List.mem_cons_of_mem _ hy)
theorem cmpN_eq {g : α → Option (Option β)} (h : α → Option β) : ∀ {xs : List α}, (∀ x ∈ xs, g x = some (h x)) → cmpN g xs = some (xs.filterMap h)
  | [], _ => rfl
  | x :: xs, hg => by
    have ih := cmpN_eq h (xs := xs) fun y hy => hg y (List.mem_cons_of_mem _ hy)
    unfold cmpN
    rw [hg x List.mem_cons_self]
    cases hx : h x with
    | none => simp only [List.filterMap_cons, hx]; exact ih
    | some y => simp only [List.filterMap_cons, hx, ih, Option.map_some]
theorem cmpO_eq {g : α → Option (Option β)} (h : α → Option β) {n : Nat} {xs : List α} (hl : xs.length ≤ n) (hg : ∀ x ∈ xs, g x = some (h x)) : cmpO g n xs = some (xs.filterMap h) := by
  unfold cmpO
  rw [if_pos hl]
  exact cmpN_eq h hg
theorem cmpO_map {g : α → Option (Option β)} (h : α → β) {n : Nat} {xs : List α} (hl : xs.length ≤ n) (hg : ∀ x ∈ xs, g x = some (some (h x))) : cmpO g n xs = some (xs.map h) := by
  rw [cmpO_eq (fun x => some (h x)) hl hg]
  simp
theorem cmpO_filter {g : α → Option (Option α)} (p : α → Bool) {n : Nat} {xs : List α} (hl : xs.length ≤ n) (hg : ∀ x ∈ xs, g x = some (if p x then some x else none)) : cmpO g n xs = some (xs.filter p) := by
  rw [cmpO_eq (fun x => if p x then some x else none) hl hg]
  congr 1
  induction xs with
  | nil => rfl
  | cons x xs ih =>
    have ih' := ih (by simp only [List.length_cons] at hl; omega) fun y hy => hg y (List.mem_cons_of_mem _ hy)
    cases hp : p x <;> simp [List.filterMap_cons, List.filter_cons, hp, ih']
theorem cmpN_map {g : α → Option (Option β)} (h : α → β) {xs : List α} (hg : ∀ x ∈ xs, g x = some (some (h x))) : cmpN g xs = some (xs.map h) := by
  rw [cmpN_eq (fun x => some (h x)) hg]
  simp
theorem flatO_eq {g : α → Option (List β)} (h : α → List β) : ∀ {xs : List α}, (∀ x ∈ xs, g x = some (h x)) → flatO g xs = some (xs.flatMap h)
  | [], _ => rfl
  | x :: xs, hg => by
    have ih := flatO_eq h (xs := xs) fun y hy => hg y (List.mem_cons_of_mem _ hy)
    unfold flatO
    rw [hg x List.mem_cons_self]
    simp only [ih, Option.map_some, List.flatMap_cons]
theorem limO_ok {xs : List α} (h : xs.length ≤ LIM) : limO xs = some xs := by
  unfold limO
  rw [if_pos h]
theorem appO_ok {xs : List α} {v : α} (h : xs.length < LIM) : appO xs v = some (xs ++ [v]) := by
  unfold appO
  rw [if_pos h]
theorem catO_ok {xs ys : List α} (h : xs.length + ys.length ≤ LIM) : catO xs ys = some (xs ++ ys) := by
  unfold catO
  rw [if_pos h]
end
theorem rngO_ok {a b : Int} (h1 : -1000000000 ≤ a) (h2 : a ≤ 1000000000) (h3 : -1000000000 ≤ b) (h4 : b ≤ 1000000000) : rngO a b = some (rngL a b) := by
  have h : ∀ x : Int, -1000000000 ≤ x → x ≤ 1000000000 → inI x = true := fun x p q => by
    unfold inI
    rw [Nat.blt_eq]
    omega
  unfold rngO
  rw [h a h1 h2, h b h3 h4]
  rfl
theorem rngL_len (a b : Int) : (rngL a b).length = (b - a).toNat := by simp [rngL]
theorem mem_rng {a b x : Int} : x ∈ rngL a b ↔ a ≤ x ∧ x < b := by
  unfold rngL
  simp only [List.mem_map, List.mem_range]
  constructor
  · rintro ⟨k, hk, rfl⟩
    omega
  · rintro ⟨h1, h2⟩
    exact ⟨(x - a).toNat, by omega, by omega⟩
theorem rngL_nil {a b : Int} (h : b ≤ a) : rngL a b = [] := by
  unfold rngL
  rw [show (b - a).toNat = 0 by omega]
  rfl
theorem rngL_cons {a b : Int} (h : a < b) : rngL a b = a :: rngL (a + 1) b := by
  unfold rngL
  rw [show (b - a).toNat = (b - (a + 1)).toNat + 1 by omega, List.range_succ_eq_map]
  simp only [List.map_cons, List.map_map]
  congr 1
  · simp
  · apply List.map_congr_left
    intro k _
    simp only [Function.comp]
    omega
theorem rngL_app {a b c : Int} (h : a ≤ b) (h2 : b ≤ c) : rngL a c = rngL a b ++ rngL b c := by
  obtain ⟨n, rfl⟩ : ∃ n : Nat, b = a + n := ⟨(b - a).toNat, by omega⟩
  clear h
  induction n generalizing a with
  | zero => rw [rngL_nil (a := a) (b := a + ((0 : Nat) : Int)) (by omega)]; simp
  | succ n ih =>
    rw [rngL_cons (a := a) (b := c) (by omega), rngL_cons (a := a) (b := a + ((n + 1 : Nat) : Int)) (by omega)]
    have := ih (a := a + 1) (by omega)
    rw [show a + 1 + (n : Int) = a + ((n + 1 : Nat) : Int) by omega] at this
    rw [this, List.cons_append]
theorem atI_rng {n i : Int} (h0 : 0 ≤ i) (h : i < n) : L2.atI (rngL 0 n) i = some i := by
  obtain ⟨k, rfl⟩ : ∃ k : Nat, i = k := ⟨i.toNat, by omega⟩
  refine atI_nat ?_
  unfold rngL
  rw [List.getElem?_map, List.getElem?_range (by omega)]
  simp
theorem enum_fst {α : Type} : ∀ (k : Int) (xs : List α), (enumL k xs).map Prod.fst = rngL k (k + xs.length)
  | k, [] => by rw [rngL_nil (by simp)]; rfl
  | k, x :: xs => by
    rw [rngL_cons (by simp only [List.length_cons]; omega)]
    simp only [enumL, List.map_cons, enum_fst (k + 1) xs, List.length_cons]
    congr 2
    omega
theorem enum_snd {α : Type} : ∀ (k : Int) (xs : List α), (enumL k xs).map Prod.snd = xs
  | k, [] => rfl
  | k, x :: xs => by simp only [enumL, List.map_cons, enum_snd (k + 1) xs]
theorem enum_len {α : Type} : ∀ (k : Int) (xs : List α), (enumL k xs).length = xs.length
  | k, [] => rfl
  | k, x :: xs => by simp only [enumL, List.length_cons, enum_len (k + 1) xs]
theorem enum_mem {α : Type} : ∀ {k : Int} {xs : List α} {p : Int × α}, p ∈ enumL k xs → ∃ j : Nat, p.1 = k + j ∧ xs[j]? = some p.2
  | k, [], p, h => by simp [enumL] at h
  | k, x :: xs, p, h => by
    simp only [enumL, List.mem_cons] at h
    rcases h with rfl | h
    · exact ⟨0, by simp, rfl⟩
    · obtain ⟨j, h1, h2⟩ := enum_mem h
      exact ⟨j + 1, by omega, h2⟩
theorem enum_at {α : Type} {xs : List α} {p : Int × α} (h : p ∈ enumL 0 xs) : L2.atI xs p.1 = some p.2 := by
  obtain ⟨j, h1, h2⟩ := enum_mem h
  rw [h1, Int.zero_add]
  exact atI_nat h2
theorem rng0_enum {α : Type} (xs : List α) : rngL 0 (xs.length : Int) = (enumL 0 xs).map Prod.fst := by
  rw [enum_fst]; simp
theorem modO_ok {a b : Int} (h : 0 < b) : modO a b = some (a % b) := by unfold modO; rw [if_pos h]
theorem mulO_r {a b : Int} (h : smallI b = true) : mulO a b = some (a * b) := by unfold mulO; rw [h]; simp
theorem mulO_l {a b : Int} (h : smallI a = true) : mulO a b = some (a * b) := by unfold mulO; rw [h]; simp
theorem fdivO_r {a b : Int} (h0 : 0 < b) (h : smallI b = true) : fdivO a b = some (a / b) := by unfold fdivO; rw [h, decide_eq_true h0]; simp
theorem small_ok {a : Int} (h1 : -1000000000000000000 ≤ a) (h2 : a ≤ 1000000000000000000) : smallI a = true := by
  unfold smallI
  rw [Nat.blt_eq]
  omega
theorem cutO_len {α : Type} (xs : List α) (k : Nat) : (cutO xs none (some (k : Int))).length ≤ k := by
  unfold cutO HT.sIx
  simp only [List.length_take, List.length_drop]
  split <;> omega
end Cw.J
namespace Cw.J
section
variable {α β σ ρ δ : Type}
/-- a loop that ends at the first of a kind -/
theorem en_find {g : α → σ → Option (Fl σ ρ)} {w : σ → Option ρ} (p : α → Bool) (v : α → ρ) {s : σ} : ∀ {xs : List α}, (∀ x ∈ xs, g x s = if p x then some (.ret (v x)) else some (.nx s)) → en (forG g xs s) w = match xs.find? p with
    | some x => some (v x)
    | none => w s
  | [], _ => rfl
  | x :: xs, h => by
    have ih := en_find (w := w) p v (xs := xs) fun y hy => h y (List.mem_cons_of_mem _ hy)
    have h1 := h x List.mem_cons_self
    cases hp : p x with
    | true =>
      rw [hp, if_pos rfl] at h1
      simp only [forG, h1, List.find?_cons, hp]
      rfl
    | false =>
      rw [hp, if_neg Bool.false_ne_true] at h1
      simp only [forG, h1, List.find?_cons, hp]
      exact ih
theorem find_map {f : α → β} {p : β → Bool} : ∀ (xs : List α), (xs.map f).find? p = (xs.find? fun x => p (f x)).map f
  | [] => rfl
  | x :: xs => by
    simp only [List.map_cons, List.find?_cons]
    cases p (f x) with
    | true => rfl
    | false => exact find_map xs
theorem find_congr {p q : α → Bool} : ∀ {xs : List α}, (∀ x ∈ xs, p x = q x) → xs.find? p = xs.find? q
  | [], _ => rfl
  | x :: xs, h => by
    simp only [List.find?_cons, h x List.mem_cons_self, find_congr fun y hy => h y (List.mem_cons_of_mem _ hy)]
end
end Cw.J
namespace Cw.J
open PySem
section
variable {α β σ ρ δ ι : Type}
theorem jn_ok {A B : Type} (mk : ι → A) {o : Option (A ⊕ B)} {w : A → Option B} {v : B} (h : ∃ i, o = some (.inl (mk i))) (hw : ∀ i, w (mk i) = some v) : jn o w = some v := by
  obtain ⟨i, rfl⟩ := h
  exact hw i
theorem head_if (xs : List α) : (if decide ((0 : Int) < (xs.length : Int)) = true then Option.map (fun x => some x) (L2.atI xs 0) else some none) = some xs.head? := by
  cases xs with
  | nil => rfl
  | cons x xs =>
    rw [if_pos (decide_eq_true (by simp only [List.length_cons]; omega))]
    have := atI_nat (xs := x :: xs) (k := 0) (x := x) rfl
    rw [show L2.atI (x :: xs) 0 = some x by simpa using this]
    rfl
theorem filter_len_mono {p q : α → Bool} : ∀ (xs : List α), (∀ x ∈ xs, p x = true → q x = true) → (xs.filter p).length ≤ (xs.filter q).length
  | [], _ => by simp
  | x :: xs, h => by
    have ih := filter_len_mono xs fun y hy => h y (List.mem_cons_of_mem _ hy)
    have h1 := h x List.mem_cons_self
    simp only [List.filter_cons]
    cases hp : p x with
    | true => rw [h1 hp]; simp only [if_true, List.length_cons]; omega
    | false =>
      cases q x with
      | true => simp only [Bool.false_eq_true, if_false, if_true, List.length_cons]; omega
      | false => simpa using ih
theorem cut_take (xs : List α) {k : Nat} (hk : k ≤ xs.length) : cutO xs none (some (k : Int)) = xs.take k := by
  unfold cutO HT.sIx
  simp only [List.drop_zero, Nat.sub_zero]
  rw [if_neg (by omega)]
  congr 1
  simp; omega
theorem cut_drop (xs : List α) {k : Nat} (hk : k ≤ xs.length) : cutO xs (some (k : Int)) none = xs.drop k := by
  unfold cutO HT.sIx
  simp only
  rw [if_neg (by omega)]
  rw [show min (k : Int).toNat xs.length = k by simp; omega]
  apply List.take_of_length_le
  simp
theorem enum_shift {k : Int} {xs : List α} {q : Int × α} (h : q ∈ enumL k xs) : (q.1 + 1, q.2) ∈ enumL (k + 1) xs := by
  induction xs generalizing k with
  | nil => simp [enumL] at h
  | cons x xs ih =>
    simp only [enumL, List.mem_cons] at h ⊢
    rcases h with rfl | h
    · exact .inl rfl
    · exact .inr (ih h)
theorem enum_of_rng {xs : List α} {k : Int} (h : k ∈ rngL 0 (xs.length : Int)) : ∃ q ∈ enumL 0 xs, q.1 = k := by
  rw [rng0_enum] at h
  obtain ⟨q, hq, rfl⟩ := List.mem_map.mp h
  exact ⟨q, hq, rfl⟩
theorem enum_det {xs : List α} {p q : Int × α} (hp : p ∈ enumL 0 xs) (hq : q ∈ enumL 0 xs) (h : p.1 = q.1) : p = q := by
  have h1 := enum_at hp
  have h2 := enum_at hq
  rw [h, h2] at h1
  cases p; cases q
  simp only at h h1 ⊢
  cases h1
  rw [h]
end
end Cw.J
namespace Cw.J
open PySem
theorem atI_mapG {α β : Type} (f : α → β) (xs : List α) (i : Int) : L2.atI (xs.map f) i = (L2.atI xs i).map f := by
  unfold L2.atI L2.ixN
  simp only [List.length_map]
  repeat' split
  all_goals first | rfl | simp
end Cw.J
namespace Cw.J
open PySem
section
variable {α β σ ρ δ ι : Type}
/-- a loop of checks, the first that fails ends it -/
theorem en_check {g : α → σ → Option (Fl σ ρ)} {w : σ → Option ρ} (p : α → Bool) (v : ρ) {s : σ} {xs : List α} (h : ∀ x ∈ xs, g x s = some (if p x then .ret v else .nx s)) : en (forG g xs s) w = if xs.any p then some v else w s := by
  rw [en_find p (fun _ => v) (fun x hx => by rw [h x hx]; cases p x <;> rfl)]
  cases hf : xs.find? p with
  | none =>
    rw [List.find?_eq_none] at hf
    rw [if_neg]
    intro ha
    obtain ⟨x, hx, hp⟩ := List.any_eq_true.mp ha
    exact hf x hx hp
  | some x => rw [if_pos (List.any_eq_true.mpr ⟨x, List.mem_of_find?_eq_some hf, List.find?_some hf⟩)]
theorem forO_app {g : α → σ → Option σ} (mk : List β → σ) (f : α → List β) (m : Nat) : ∀ (xs : List α) (b : List β), (∀ x ∈ xs, (f x).length ≤ m) → (∀ x ∈ xs, ∀ b : List β, b.length + m ≤ 10000 → g x (mk b) = some (mk (b ++ f x))) → b.length + m * (xs.length + 1) ≤ 10000 → forO g xs (mk b) = some (mk (b ++ xs.flatMap f))
  | [], b, _, _, _ => by simp [forO]
  | x :: xs, b, hm, hg, hl => by
    have h1 := hm x List.mem_cons_self
    have hmul : m * ((x :: xs).length + 1) = m * (xs.length + 1) + m := by rw [List.length_cons, Nat.mul_add m (xs.length + 1) 1, Nat.mul_one]
    rw [hmul] at hl
    have h0 : m ≤ m * (xs.length + 1) := Nat.le_mul_of_pos_right m (Nat.succ_pos _)
    unfold forO
    rw [hg x List.mem_cons_self b (by omega)]
    have := forO_app mk f m xs (b ++ f x) (fun y hy => hm y (List.mem_cons_of_mem _ hy)) (fun y hy => hg y (List.mem_cons_of_mem _ hy)) (by rw [List.length_append]; omega)
    rw [List.flatMap_cons, ← List.append_assoc]
    exact this
/-- a loop that keeps the first of a kind -/
theorem forG_first {g : α → σ → Option (Fl σ ρ)} (mk : Option α → σ) (p : α → Bool) : ∀ (xs : List α) (b : Option α), (∀ x ∈ xs, ∀ b, g x (mk b) = some (.nx (mk (if b.isNone && p x then some x else b)))) → forG g xs (mk b) = some (.nx (mk (b.or (xs.find? p))))
  | [], b, _ => by cases b <;> rfl
  | x :: xs, b, h => by
    unfold forG
    rw [h x List.mem_cons_self]
    have := forG_first mk p xs (if b.isNone && p x then some x else b) fun y hy => h y (List.mem_cons_of_mem _ hy)
    simp only [this, List.find?_cons]
    cases b with
    | some y => rfl
    | none =>
      cases p x <;> rfl
end
theorem atI_nth {xs : List (Int × Int)} {j : Int} (h : j ∈ rngL 0 (xs.length : Int)) : ∃ p ∈ xs, L2.atI xs j = some p := by
  obtain ⟨q, hq, rfl⟩ := enum_of_rng h
  obtain ⟨k, _, h2⟩ := enum_mem hq
  exact ⟨q.2, List.mem_of_getElem? h2, enum_at hq⟩
end Cw.J
end

section
namespace Cw.J
open PySem
theorem forO_c {α σ : Type} (g : α → σ → Option σ) (x : α) (xs : List α) (s : σ) : forO g (x :: xs) s = (g x s).bind fun s' => forO g xs s' := by
  conv => lhs; unfold forO
  cases g x s <;> rfl
theorem forO_n {α σ : Type} (g : α → σ → Option σ) (s : σ) : forO g [] s = some s := rfl
theorem all_id {α : Type} {p : α → Bool} {xs : List α} (h : ∀ x ∈ xs, p x = true) : (xs.map p).all id = true := by
  rw [List.all_eq_true]
  intro b hb
  obtain ⟨x, hx, rfl⟩ := List.mem_map.mp hb
  exact h x hx
theorem forO_mk {α σ τ : Type} {g : α → σ → Option σ} (mk : τ → σ) (f : τ → α → τ) : ∀ (xs : List α) (t : τ), (∀ x ∈ xs, ∀ t, g x (mk t) = some (mk (f t x))) → forO g xs (mk t) = some (mk (xs.foldl f t))
  | [], t, _ => rfl
  | x :: xs, t, h => by
    unfold forO
    rw [h x List.mem_cons_self]
    exact forO_mk mk f xs (f t x) fun y hy => h y (List.mem_cons_of_mem _ hy)
theorem forO_mkI {α σ τ : Type} {g : α → σ → Option σ} (mk : τ → σ) (f : τ → α → τ) (J : τ → Prop) : ∀ (xs : List α) (t : τ), J t → (∀ x ∈ xs, ∀ t, J t → g x (mk t) = some (mk (f t x)) ∧ J (f t x)) → forO g xs (mk t) = some (mk (xs.foldl f t))
  | [], t, _, _ => rfl
  | x :: xs, t, hJ, h => by
    unfold forO
    obtain ⟨h1, h2⟩ := h x List.mem_cons_self t hJ
    rw [h1]
    exact forO_mkI mk f J xs (f t x) h2 fun y hy => h y (List.mem_cons_of_mem _ hy)
theorem cmpO_N {α β : Type} (g : α → Option (Option β)) (xs : List α) (h : xs.length ≤ LIM := by decide) : cmpO g LIM xs = cmpN g xs := if_pos h
theorem forG_mk {α σ ρ τ : Type} {g : α → σ → Option (Fl σ ρ)} (mk : τ → σ) (f : τ → α → τ) : ∀ (xs : List α) (t : τ), (∀ x ∈ xs, ∀ t, g x (mk t) = some (.nx (mk (f t x)))) → forG g xs (mk t) = some (.nx (mk (xs.foldl f t)))
  | [], t, _ => rfl
  | x :: xs, t, h => by
    unfold forG
    rw [h x List.mem_cons_self]
    exact forG_mk mk f xs (f t x) fun y hy => h y (List.mem_cons_of_mem _ hy)
def bstep {α κ : Type} (lt : κ → κ → Bool) (q : α → Bool) (k : α → κ) (b : Option κ) (x : α) : Option κ := if q x then (match b with
  | none => some (k x)
  | some m => if lt (k x) m then some (k x) else some m) else b
theorem best_some {α κ : Type} (lt : κ → κ → Bool) (q : α → Bool) (k : α → κ) : ∀ (xs : List α) (m : κ), xs.foldl (bstep lt q k) (some m) = some (((xs.filter q).map k).foldl (fun a y => if lt y a then y else a) m)
  | [], m => rfl
  | x :: xs, m => by
    rw [List.foldl_cons]
    cases hq : q x with
    | true =>
      rw [List.filter_cons, hq, if_pos rfl, List.map_cons, List.foldl_cons]
      unfold bstep
      rw [hq, if_pos rfl]
      simp only
      cases lt (k x) m <;> exact best_some lt q k xs _
    | false =>
      rw [List.filter_cons, hq, if_neg Bool.false_ne_true]
      unfold bstep
      rw [hq, if_neg Bool.false_ne_true]
      exact best_some lt q k xs m
theorem best_none {α κ : Type} (lt : κ → κ → Bool) (q : α → Bool) (k : α → κ) : ∀ xs : List α, xs.foldl (bstep lt q k) none = minB lt ((xs.filter q).map k)
  | [] => rfl
  | x :: xs => by
    rw [List.foldl_cons]
    cases hq : q x with
    | true =>
      rw [List.filter_cons, hq, if_pos rfl, List.map_cons]
      have : bstep lt q k none x = some (k x) := by unfold bstep; rw [hq]; rfl
      rw [this, best_some]
      rfl
    | false =>
      rw [List.filter_cons, hq, if_neg Bool.false_ne_true]
      have : bstep lt q k none x = none := by unfold bstep; rw [hq]; rfl
      rw [this]
      exact best_none lt q k xs
theorem appO_s {α : Type} {xs : List α} {v : α} (h : Nat.blt xs.length 10 = true) : appO xs v = some (xs ++ [v]) := appO_ok (by
  have : LIM = 16777216 := rfl
  have := Nat.blt_eq.mp h
  omega)
theorem cmpO3 {α β : Type} {f : α → Option (Option β)} {a b c : α} {x y z : β} (h1 : f a = some (some x)) (h2 : f b = some (some y)) (h3 : f c = some (some z)) : cmpO f LIM [a, b, c] = some [x, y, z] := by
  unfold cmpO
  rw [if_pos (show [a, b, c].length ≤ LIM by show 3 ≤ LIM; decide)]
  simp only [cmpN, h1, h2, h3, Option.bind_some, Option.map_some]
theorem cmpO2 {α β : Type} {f : α → Option (Option β)} {a b : α} {x y : β} (h1 : f a = some (some x)) (h2 : f b = some (some y)) : cmpO f LIM [a, b] = some [x, y] := by
  unfold cmpO
  rw [if_pos (show [a, b].length ≤ LIM by show 2 ≤ LIM; decide)]
  simp only [cmpN, h1, h2, Option.bind_some, Option.map_some]
abbrev lt2 : Int × List Int → Int × List Int → Bool := ltP2 (fun a b => decide (a < b)) (ltL fun a b => decide (a < b))
def K3 (k : Int) : Prop := k = 0 ∨ k = 1 ∨ k = 2
def prm : List (List Int) := [[0, 1, 2], [0, 2, 1], [1, 0, 2], [1, 2, 0], [2, 0, 1], [2, 1, 0]]
end Cw.J
end

section
namespace Cw.J
open PySem
abbrev C0 : List K := [kV (eL eI), kN, kN, kN, kN, kN, kN, kN, kN, kN, kN, kN, kN, kN, kN, kN, kN, kN, kN, kN, kN, kN, kN]
abbrev C1 : List K := [kV (eL eI), kN, kN, kN, kN, kN]
abbrev C2 : List K := [kV (eL eI), kO (eL eI), kN, kN, kN, kN]
abbrev H1 : Type := (List Int) × Unit × Unit × Unit × Unit × Unit × Unit
abbrev H2 : Type := (List Int) × (List Int) × Unit × Unit × Unit × Unit × Unit
abbrev C3 : List K := [kV (eL eI), kO (eL eI), kJ, kJ, kJ, kJ]
abbrev C4 : List K := [kV (eL eI), kO (eL eI), kV eI, kJ, kJ, kJ]
abbrev H3 : Type := (List Int) × (List Int) × Unit × Unit × Unit × Unit × Unit
abbrev H4 : Type := (List Int) × (List Int) × Int × Unit × Unit × Unit × Unit
abbrev C5 : List K := [kV (eL eI), kO (eL eI), kV eI, kV eI, kJ, kJ]
abbrev H5 : Type := (List Int) × (List Int) × Int × Int × Unit × Unit × Unit
abbrev C6 : List K := [kV (eL eI), kO (eL eI), kV eI, kV eI, kV eI, kJ]
abbrev H6 : Type := (List Int) × (List Int) × Int × Int × Int × Unit × Unit
abbrev C7 : List K := [kV (eL eI), kO (eL eI), kV eI, kJ, kV eI, kJ]
abbrev H7 : Type := (List Int) × (List Int) × Int × Unit × Int × Unit × Unit
abbrev C8 : List K := [kV (eL eI), kO (eL eI), kV eI, kJ, kV eI, kV eI]
abbrev H8 : Type := (List Int) × (List Int) × Int × Unit × Int × Int × Unit
abbrev C9 : List K := [kV (eL eI)]
abbrev H9 : Type := (List Int) × Unit
abbrev S__law_numbers := {g : (List Int) → Option (List Int) // ∀ n, FS (callF tab (n + 1)) f__law_numbers C9 (eL eI) (fun a : H9 => g a.1)}
def p__law_numbers : {g : H9 → Option (List Int) // ∀ n, FS (callF tab (n + 1)) f__law_numbers C9 (eL eI) g} := ⟨_, fun n => fs_of (fn := ⟨1, 6, [], 1, b__law_numbers⟩) (ps := C9) (Γ := C1) (st := fun a : H9 => ((a.1, (), (), (), (), (), ()) : H1)) rfl rfl rfl rfl rfl (start_rel (fn := ⟨1, 6, [], 1, b__law_numbers⟩) (ps := C9) rfl rfl rfl)
  (ts_asgO (Γ1 := C1) (Γ2 := C2) (up := (fun x (γ : H1) => ((γ.1, x, γ.2.2) : H2))) (tm_keep (te_lst rfl (tl_nil (e := eI)))) mt_L (up_O 1 (eL eI))
  (ts_for (Γ1 := C2) (Γl := C3) (Γb := C4) (wk := (fun γ : H2 => ((γ.1, γ.2.1, (), (), (), (), γ.2.2.2.2.2.2) : H3))) (ti_keep (Γ := C2) (Γ' := C2) (wk := fun γ : H2 => γ) (it_L (e := eI)) fz_nil (te_slc (slc_L (e := eI)) (te_var (Γ := C2) (e := (eL eI)) (g := (fun γ : H2 => γ.1)) ⟨rg 0 rfl⟩) tb_none (tb_some (te_con eI 63 rfl)))) (wn_s (wn_s (wn_jN (wn_jN (wn_jN (wn_jN wn_id)))))) (tg_nm (Γ := C3) (Γ' := C4) (up := (fun x (γ : H3) => ((γ.1, γ.2.1, x, γ.2.2.2) : H4))) (up_V 2 eI))
  (ts_if (Γ1 := C4) (tt_keep (te_cmp r_ge (te_var (Γ := C4) (e := eI) (g := (fun γ : H4 => γ.2.2.1)) ⟨rg 2 rfl⟩) (te_bin o_pow (te_con eI 10 rfl) (te_con eI 18 rfl))))
  (ts_asgV (Γ1 := C4) (Γ2 := C5) (up := (fun x (γ : H4) => ((γ.1, γ.2.1, γ.2.2.1, x, γ.2.2.2.2) : H5))) (tm_keep (te_var (Γ := C4) (e := eI) (g := (fun γ : H4 => γ.2.2.1)) ⟨rg 2 rfl⟩)) (nk0 _) (up_V 3 eI)
  (ts_forG (Γ1 := C5) (Γl := C5) (Γb := C6) (wk := (fun γ : H5 => γ)) (ti_keep (Γ := C5) (Γ' := C5) (wk := fun γ : H5 => γ) (it_L (e := eI)) fz_nil (te_rng (te_con eI 0 rfl) (te_con eI 60 rfl))) wn_id (tg_nm (Γ := C5) (Γ' := C6) (up := (fun x (γ : H5) => ((γ.1, γ.2.1, γ.2.2.1, γ.2.2.2.1, x, γ.2.2.2.2.2) : H6))) (up_V 4 eI))
  (ts_if (Γ1 := C6) (tt_keep (te_cmp r_eq (te_var (Γ := C6) (e := eI) (g := (fun γ : H6 => γ.2.2.2.1)) ⟨rg 3 rfl⟩) (te_con eI 0 rfl)))
  (ts_brk (en_gbrk (Γ := C6) (Γl := C5) (wk := (fun γ : H6 => ((γ.1, γ.2.1, γ.2.2.1, γ.2.2.2.1, (), γ.2.2.2.2.2) : H5))) (wn_s (wn_s (wn_s (wn_s (wn_jV wn_id)))))))
  (ts_app (Γ1 := C6) (um_O (Γ := C6) (e := (eL eI)) (g := (fun γ : H6 => γ.2.1)) (up := (fun x (γ : H6) => ((γ.1, x, γ.2.2) : H6))) ⟨rg 1 rfl⟩ (up_O 1 (eL eI))) (tm_keep (te_bin o_mod (te_bi1 b_int (te_var (Γ := C6) (e := eI) (g := (fun γ : H6 => γ.2.2.2.1)) ⟨rg 3 rfl⟩)) (te_con eI 997 rfl))) (um_O (Γ := C6) (e := (eL eI)) (g := (fun γ : H6 => γ.2.1)) (up := (fun x (γ : H6) => ((γ.1, x, γ.2.2) : H6))) ⟨rg 1 rfl⟩ (up_O 1 (eL eI)))
  (ts_asgV (Γ1 := C6) (Γ2 := C6) (up := (fun x (γ : H6) => ((γ.1, γ.2.1, γ.2.2.1, x, γ.2.2.2.2) : H6))) (tm_keep (te_bin o_fdiv (te_var (Γ := C6) (e := eI) (g := (fun γ : H6 => γ.2.2.2.1)) ⟨rg 3 rfl⟩) (te_con eI 997 rfl))) (nk0 _) (up_V 3 eI)
  (ts_nil (en_gnx (Γ := C6) (Γl := C5) (wk := (fun γ : H6 => ((γ.1, γ.2.1, γ.2.2.1, γ.2.2.2.1, (), γ.2.2.2.2.2) : H5))) (wn_s (wn_s (wn_s (wn_s (wn_jV wn_id))))))))))
  (ts_nil (en_lnx (Γ := C5) (Γl := C3) (wk := (fun γ : H5 => ((γ.1, γ.2.1, (), (), γ.2.2.2.2) : H3))) (wn_s (wn_s (wn_jV (wn_jV wn_id))))))))
  (ts_for (Γ1 := C4) (Γl := C4) (Γb := C7) (wk := (fun γ : H4 => γ)) (ti_keep (Γ := C4) (Γ' := C4) (wk := fun γ : H4 => γ) (it_L (e := eI)) fz_nil (te_rng (te_con eI 0 rfl) (te_con eI 4 rfl))) wn_id (tg_nm (Γ := C4) (Γ' := C7) (up := (fun x (γ : H4) => ((γ.1, γ.2.1, γ.2.2.1, γ.2.2.2.1, x, γ.2.2.2.2.2) : H7))) (up_V 4 eI))
  (ts_asgV (Γ1 := C7) (Γ2 := C8) (up := (fun x (γ : H7) => ((γ.1, γ.2.1, γ.2.2.1, γ.2.2.2.1, γ.2.2.2.2.1, x, γ.2.2.2.2.2.2) : H8))) (tm_keep (te_bin o_mod (te_bi1 b_int (te_bin o_add (te_bin o_add (te_bin o_mul (te_var (Γ := C7) (e := eI) (g := (fun γ : H7 => γ.2.2.1)) ⟨rg 2 rfl⟩) (te_con eI 48271 rfl)) (te_bin o_mul (te_var (Γ := C7) (e := eI) (g := (fun γ : H7 => γ.2.2.2.2.1)) ⟨rg 4 rfl⟩) (te_con eI 69621 rfl))) (te_con eI 11 rfl))) (te_con eI 2147483647 rfl))) (nk0 _) (up_V 5 eI)
  (ts_app (Γ1 := C8) (um_O (Γ := C8) (e := (eL eI)) (g := (fun γ : H8 => γ.2.1)) (up := (fun x (γ : H8) => ((γ.1, x, γ.2.2) : H8))) ⟨rg 1 rfl⟩ (up_O 1 (eL eI))) (tm_keep (te_bin o_mod (te_bi1 b_int (te_bin o_add (te_bin o_mul (te_var (Γ := C8) (e := eI) (g := (fun γ : H8 => γ.2.2.2.2.2.1)) ⟨rg 5 rfl⟩) (te_con eI 16807 rfl)) (te_var (Γ := C8) (e := eI) (g := (fun γ : H8 => γ.2.2.2.2.1)) ⟨rg 4 rfl⟩))) (te_con eI 2147483629 rfl))) (um_O (Γ := C8) (e := (eL eI)) (g := (fun γ : H8 => γ.2.1)) (up := (fun x (γ : H8) => ((γ.1, x, γ.2.2) : H8))) ⟨rg 1 rfl⟩ (up_O 1 (eL eI)))
  (ts_nil (en_lnx (Γ := C8) (Γl := C4) (wk := (fun γ : H8 => ((γ.1, γ.2.1, γ.2.2.1, γ.2.2.2.1, (), (), γ.2.2.2.2.2.2) : H4))) (wn_s (wn_s (wn_s (wn_s (wn_jV (wn_jV wn_id))))))))))
  (ts_nil (en_lnx (Γ := C4) (Γl := C3) (wk := (fun γ : H4 => ((γ.1, γ.2.1, (), γ.2.2.2) : H3))) (wn_s (wn_s (wn_jV wn_id)))))))
  (ts_if (Γ1 := C3) (tt_look (te_cmp r_eq (te_bi1 (bl_len (e := eI)) (te_varO (Γ := C3) (e := (eL eI)) (g := (fun γ : H3 => γ.2.1)) ⟨rg 1 rfl⟩)) (te_con eI 0 rfl)))
  (ts_app (Γ1 := C3) (um_O (Γ := C3) (e := (eL eI)) (g := (fun γ : H3 => γ.2.1)) (up := (fun x (γ : H3) => ((γ.1, x, γ.2.2) : H3))) ⟨rg 1 rfl⟩ (up_O 1 (eL eI))) (tm_keep (te_con eI 0 rfl)) (um_O (Γ := C3) (e := (eL eI)) (g := (fun γ : H3 => γ.2.1)) (up := (fun x (γ : H3) => ((γ.1, x, γ.2.2) : H3))) ⟨rg 1 rfl⟩ (up_O 1 (eL eI)))
  (ts_retO (Γ := C3) (e := (eL eI)) (g := (fun γ : H3 => γ.2.1)) ⟨rg 1 rfl⟩ (ri_fn rfl (fun _ => rfl))))
  (ts_retO (Γ := C3) (e := (eL eI)) (g := (fun γ : H3 => γ.2.1)) ⟨rg 1 rfl⟩ (ri_fn rfl (fun _ => rfl))))))⟩
def s__law_numbers : S__law_numbers := ⟨fun a0 => (p__law_numbers).1 (a0, ()), fun n => (p__law_numbers).2 n⟩
def z__law_numbers : S__law_numbers := s__law_numbers
abbrev H0 : Type := (List Int) × Unit × Unit × Unit × Unit × Unit × Unit × Unit × Unit × Unit × Unit × Unit × Unit × Unit × Unit × Unit × Unit × Unit × Unit × Unit × Unit × Unit × Unit × Unit
abbrev C10 : List K := [kV (eL eI), kV (eL eI), kN, kN, kN, kN, kN, kN, kN, kN, kN, kN, kN, kN, kN, kN, kN, kN, kN, kN, kN, kN, kN]
abbrev H10 : Type := (List Int) × (List Int) × Unit × Unit × Unit × Unit × Unit × Unit × Unit × Unit × Unit × Unit × Unit × Unit × Unit × Unit × Unit × Unit × Unit × Unit × Unit × Unit × Unit × Unit
abbrev C11 : List K := [kV (eL eI), kV (eL eI), kO (eL eI), kN, kN, kN, kN, kN, kN, kN, kN, kN, kN, kN, kN, kN, kN, kN, kN, kN, kN, kN, kN]
abbrev H11 : Type := (List Int) × (List Int) × (List Int) × Unit × Unit × Unit × Unit × Unit × Unit × Unit × Unit × Unit × Unit × Unit × Unit × Unit × Unit × Unit × Unit × Unit × Unit × Unit × Unit × Unit
abbrev C12 : List K := [kV (eL eI), kM (eL eI), kV eI]
abbrev H12 : Type := (List Int) × (List Int) × Int × Unit
abbrev C13 : List K := [kV (eL eI), kV eI, kV eI, kN]
abbrev H13 : Type := (List Int) × Int × Int × Unit × Unit
abbrev C14 : List K := [kV (eL eI), kV eI, kV eI, kV eI]
abbrev H14 : Type := (List Int) × Int × Int × Int × Unit
abbrev C15 : List K := [kV (eL eI), kV eI, kV eI]
abbrev H15 : Type := (List Int) × Int × Int × Unit
abbrev S__law_draw := {g : (List Int) → Int → Int → Option Int // ∀ n, FS (callF tab (n + 1)) f__law_draw C15 eI (fun a : H15 => g a.1 a.2.1 a.2.2.1)}
def p__law_draw : {g : H15 → Option Int // ∀ n, FS (callF tab (n + 1)) f__law_draw C15 eI g} := ⟨_, fun n => fs_of (fn := ⟨3, 4, [], 0, b__law_draw⟩) (ps := C15) (Γ := C13) (st := fun a : H15 => ((a.1, a.2.1, a.2.2.1, (), ()) : H13)) rfl rfl rfl rfl rfl (start_rel (fn := ⟨3, 4, [], 0, b__law_draw⟩) (ps := C15) rfl rfl rfl)
  (ts_if (Γ1 := C13) (tt_keep (te_cmp r_lt (te_var (Γ := C13) (e := eI) (g := (fun γ : H13 => γ.2.1)) ⟨rg 1 rfl⟩) (te_bi1 (bl_len (e := eI)) (te_var (Γ := C13) (e := (eL eI)) (g := (fun γ : H13 => γ.1)) ⟨rg 0 rfl⟩))))
  (ts_ret (tm_keep (te_bin o_mod (te_bi1 b_int (te_idx (i_L (e := eI)) (te_var (Γ := C13) (e := (eL eI)) (g := (fun γ : H13 => γ.1)) ⟨rg 0 rfl⟩) (te_var (Γ := C13) (e := eI) (g := (fun γ : H13 => γ.2.1)) ⟨rg 1 rfl⟩))) (te_var (Γ := C13) (e := eI) (g := (fun γ : H13 => γ.2.2.1)) ⟨rg 2 rfl⟩))) (ri_fn rfl (fun _ => rfl)))
  (ts_asgV (Γ1 := C13) (Γ2 := C14) (up := (fun x (γ : H13) => ((γ.1, γ.2.1, γ.2.2.1, x, γ.2.2.2.2) : H14))) (tm_keep (te_bin o_mod (te_bi1 b_int (te_bin o_add (te_bin o_add (te_bin o_mul (te_idx (i_L (e := eI)) (te_var (Γ := C13) (e := (eL eI)) (g := (fun γ : H13 => γ.1)) ⟨rg 0 rfl⟩) (te_bin o_mod (te_bi1 b_int (te_var (Γ := C13) (e := eI) (g := (fun γ : H13 => γ.2.1)) ⟨rg 1 rfl⟩)) (te_bi1 (bl_len (e := eI)) (te_var (Γ := C13) (e := (eL eI)) (g := (fun γ : H13 => γ.1)) ⟨rg 0 rfl⟩)))) (te_con eI 40692 rfl)) (te_bin o_mul (te_var (Γ := C13) (e := eI) (g := (fun γ : H13 => γ.2.1)) ⟨rg 1 rfl⟩) (te_con eI 7919 rfl))) (te_con eI 3 rfl))) (te_con eI 2147483399 rfl))) (nk0 _) (up_V 3 eI)
  (ts_ret (tm_keep (te_bin o_mod (te_bi1 b_int (te_bin o_mod (te_bi1 b_int (te_bin o_add (te_bin o_mul (te_var (Γ := C14) (e := eI) (g := (fun γ : H14 => γ.2.2.2.1)) ⟨rg 3 rfl⟩) (te_con eI 48271 rfl)) (te_var (Γ := C14) (e := eI) (g := (fun γ : H14 => γ.2.1)) ⟨rg 1 rfl⟩))) (te_con eI 2147483647 rfl))) (te_var (Γ := C14) (e := eI) (g := (fun γ : H14 => γ.2.2.1)) ⟨rg 2 rfl⟩))) (ri_fn rfl (fun _ => rfl)))))⟩
def s__law_draw : S__law_draw := ⟨fun a0 a1 a2 => (p__law_draw).1 (a0, a1, a2, ()), fun n => (p__law_draw).2 n⟩
def z__law_draw : S__law_draw := s__law_draw
abbrev S__law_take := {g : (List Int) → (List Int) → Int → Option (Int × ((List Int) × Unit)) // ∀ n, FX (callF tab (n + 2)) f__law_take C12 eI [kM (eL eI)] (fun a : H12 => g a.1 a.2.1 a.2.2.1)}
def p__law_take (s__law_draw : S__law_draw) : {g : H12 → Option (Int × ((List Int) × Unit)) // ∀ n, FX (callF tab (n + 2)) f__law_take C12 eI [kM (eL eI)] g} := ⟨_, fun n => fx_of (fn := ⟨3, 3, [1], 0, b__law_take⟩) (ps := C12) (Γ := C12) (st := fun a : H12 => ((a.1, a.2.1, a.2.2.1, ()) : H12)) rfl rfl (start_rel (fn := ⟨3, 3, [1], 0, b__law_take⟩) (ps := C12) rfl rfl rfl)
  (ts_set (Γ1 := C12) (s_L (e := eI)) (tm_keep (te_bin o_add (te_sidx (i_L (e := eI)) (la_M (Γ := C12) (e := (eL eI)) (g := (fun γ : H12 => γ.2.1)) ⟨rg 1 rfl⟩) (te_con eI 0 rfl)) (te_con eI 1 rfl))) (um_M (Γ := C12) (e := (eL eI)) (g := (fun γ : H12 => γ.2.1)) (up := (fun x (γ : H12) => ((γ.1, x, γ.2.2) : H12))) ⟨rg 1 rfl⟩ (up_M 1 (eL eI))) (te_con eI 0 rfl)
  (ts_ret (tm_keep (te_call (fn := ⟨3, 4, [], 0, b__law_draw⟩) rfl rfl (s__law_draw.2 _) (ta_cons (te_var (Γ := C12) (e := (eL eI)) (g := (fun γ : H12 => γ.1)) ⟨rg 0 rfl⟩) (ta_cons (te_bin o_sub (te_sidx (i_L (e := eI)) (la_M (Γ := C12) (e := (eL eI)) (g := (fun γ : H12 => γ.2.1)) ⟨rg 1 rfl⟩) (te_con eI 0 rfl)) (te_con eI 1 rfl)) (ta_cons (te_var (Γ := C12) (e := eI) (g := (fun γ : H12 => γ.2.2.1)) ⟨rg 2 rfl⟩) ta_nil))))) (ri_fx (fun _ => rfl) (os_cons (Γ := C12) (g := (fun γ : H12 => γ.2.1)) ⟨rg 1 rfl⟩ os_nil))))⟩
def s__law_take (s__law_draw : S__law_draw) : S__law_take := ⟨fun a0 a1 a2 => (p__law_take s__law_draw).1 (a0, a1, a2, ()), fun n => (p__law_take s__law_draw).2 n⟩
def z__law_take : S__law_take := s__law_take z__law_draw
abbrev C16 : List K := [kV (eL eI), kV (eL eI), kO (eL eI), kV eI, kN, kN, kN, kN, kN, kN, kN, kN, kN, kN, kN, kN, kN, kN, kN, kN, kN, kN, kN]
abbrev H16 : Type := (List Int) × (List Int) × (List Int) × Int × Unit × Unit × Unit × Unit × Unit × Unit × Unit × Unit × Unit × Unit × Unit × Unit × Unit × Unit × Unit × Unit × Unit × Unit × Unit × Unit
abbrev C17 : List K := [kV (eL eI), kV (eL eI), kO (eL eI), kV eI, kV eI, kN, kN, kN, kN, kN, kN, kN, kN, kN, kN, kN, kN, kN, kN, kN, kN, kN, kN]
abbrev H17 : Type := (List Int) × (List Int) × (List Int) × Int × Int × Unit × Unit × Unit × Unit × Unit × Unit × Unit × Unit × Unit × Unit × Unit × Unit × Unit × Unit × Unit × Unit × Unit × Unit × Unit
abbrev C18 : List K := [kV (eL eI), kV (eL eI), kO (eL eI), kV eI, kV eI, kJ, kJ, kJ, kJ, kJ, kJ, kJ, kJ, kX, kJ, kJ, kJ, kJ, kJ, kJ, kJ, kJ, kN]
abbrev C19 : List K := [kV (eL eI), kV (eL eI), kO (eL eI), kV eI, kV eI, kV eI, kJ, kJ, kJ, kJ, kJ, kJ, kJ, kX, kJ, kJ, kJ, kJ, kJ, kJ, kJ, kJ, kN]
abbrev H18 : Type := (List Int) × (List Int) × (List Int) × Int × Int × Unit × Unit × Unit × Unit × Unit × Unit × Unit × Unit × Unit × Unit × Unit × Unit × Unit × Unit × Unit × Unit × Unit × Unit × Unit
abbrev H19 : Type := (List Int) × (List Int) × (List Int) × Int × Int × Int × Unit × Unit × Unit × Unit × Unit × Unit × Unit × Unit × Unit × Unit × Unit × Unit × Unit × Unit × Unit × Unit × Unit × Unit
abbrev C20 : List K := [kV (eL eI), kV (eL eI), kO (eL eI), kV eI, kV eI, kV eI, kV eI, kJ, kJ, kJ, kJ, kJ, kJ, kX, kJ, kJ, kJ, kJ, kJ, kJ, kJ, kJ, kN]
abbrev H20 : Type := (List Int) × (List Int) × (List Int) × Int × Int × Int × Int × Unit × Unit × Unit × Unit × Unit × Unit × Unit × Unit × Unit × Unit × Unit × Unit × Unit × Unit × Unit × Unit × Unit
abbrev C21 : List K := [kV (eL eI), kV (eL eI), kO (eL eI), kV eI, kV eI, kV eI, kV eI, kV eI, kJ, kJ, kJ, kJ, kJ, kX, kJ, kJ, kJ, kJ, kJ, kJ, kJ, kJ, kN]
abbrev H21 : Type := (List Int) × (List Int) × (List Int) × Int × Int × Int × Int × Int × Unit × Unit × Unit × Unit × Unit × Unit × Unit × Unit × Unit × Unit × Unit × Unit × Unit × Unit × Unit × Unit
abbrev C22 : List K := [kV (eL eI), kV (eL eI), kO (eL eI), kV eI, kV eI, kV eI, kV eI, kV eI, kJ, kJ, kJ, kJ, kJ, kX, kJ, kJ, kJ, kN, kJ, kJ, kJ, kJ, kN]
abbrev H22 : Type := (List Int) × (List Int) × (List Int) × Int × Int × Int × Int × Int × Unit × Unit × Unit × Unit × Unit × Unit × Unit × Unit × Unit × Unit × Unit × Unit × Unit × Unit × Unit × Unit
abbrev C23 : List K := [kV (eL eI), kV (eL eI), kO (eL eI), kV eI, kV eI, kV eI, kV eI, kV eI, kJ, kJ, kJ, kJ, kJ, kX, kJ, kJ, kJ, kV eI, kJ, kJ, kJ, kJ, kN]
abbrev H23 : Type := (List Int) × (List Int) × (List Int) × Int × Int × Int × Int × Int × Unit × Unit × Unit × Unit × Unit × Unit × Unit × Unit × Unit × Int × Unit × Unit × Unit × Unit × Unit × Unit
abbrev C24 : List K := [kV (eL eI), kV (eL eI), kO (eL eI), kV eI, kV eI, kV eI, kV eI, kV eI, kV (eL eI), kJ, kJ, kJ, kJ, kX, kJ, kJ, kJ, kJ, kJ, kJ, kJ, kJ, kN]
abbrev H24 : Type := (List Int) × (List Int) × (List Int) × Int × Int × Int × Int × Int × (List Int) × Unit × Unit × Unit × Unit × Unit × Unit × Unit × Unit × Unit × Unit × Unit × Unit × Unit × Unit × Unit
abbrev C25 : List K := [kV (eL eI), kV (eL eI), kO (eL eI), kV eI, kV eI, kV eI, kV eI, kV eI, kV (eL eI), kV (eT (eT eI)), kJ, kJ, kJ, kX, kJ, kJ, kJ, kJ, kJ, kJ, kJ, kJ, kN]
abbrev H25 : Type := (List Int) × (List Int) × (List Int) × Int × Int × Int × Int × Int × (List Int) × (List (List Int)) × Unit × Unit × Unit × Unit × Unit × Unit × Unit × Unit × Unit × Unit × Unit × Unit × Unit × Unit
abbrev C26 : List K := [kV (eL eI), kV (eL eI), kO (eL eI), kV eI, kV eI, kV eI, kV eI, kV eI, kV (eL eI), kV (eT (eT eI)), kV eI, kJ, kJ, kX, kJ, kJ, kJ, kJ, kJ, kJ, kJ, kJ, kN]
abbrev H26 : Type := (List Int) × (List Int) × (List Int) × Int × Int × Int × Int × Int × (List Int) × (List (List Int)) × Int × Unit × Unit × Unit × Unit × Unit × Unit × Unit × Unit × Unit × Unit × Unit × Unit × Unit
abbrev C27 : List K := [kV (eL eI), kV (eL eI), kO (eL eI), kV eI, kV eI, kV eI, kV eI, kV eI, kV (eL eI), kV (eT (eT eI)), kV eI, kJ, kJ, kO (eL (eO eI)), kJ, kJ, kJ, kJ, kJ, kJ, kJ, kJ, kN]
abbrev H27 : Type := (List Int) × (List Int) × (List Int) × Int × Int × Int × Int × Int × (List Int) × (List (List Int)) × Int × Unit × Unit × (List (Option Int)) × Unit × Unit × Unit × Unit × Unit × Unit × Unit × Unit × Unit × Unit
abbrev C28 : List K := [kV (eL eI), kV (eL eI), kO (eL eI), kV eI, kV eI, kV eI, kV eI, kV eI, kV (eL eI), kV (eT (eT eI)), kV eI, kJ, kJ, kO (eL (eO eI)), kV eI, kJ, kJ, kJ, kJ, kJ, kJ, kJ, kN]
abbrev H28 : Type := (List Int) × (List Int) × (List Int) × Int × Int × Int × Int × Int × (List Int) × (List (List Int)) × Int × Unit × Unit × (List (Option Int)) × Int × Unit × Unit × Unit × Unit × Unit × Unit × Unit × Unit × Unit
abbrev C29 : List K := [kV (eL eI), kV (eL eI), kO (eL eI), kV eI, kV eI, kV eI, kV eI, kV eI, kV (eL eI), kV (eT (eT eI)), kV eI, kJ, kJ, kO (eL (eO eI)), kV eI, kJ, kJ, kN, kJ, kJ, kJ, kJ, kN]
abbrev H29 : Type := (List Int) × (List Int) × (List Int) × Int × Int × Int × Int × Int × (List Int) × (List (List Int)) × Int × Unit × Unit × (List (Option Int)) × Int × Unit × Unit × Unit × Unit × Unit × Unit × Unit × Unit × Unit
abbrev C30 : List K := [kV (eL eI), kV (eL eI), kO (eL eI), kV eI, kV eI, kV eI, kV eI, kV eI, kV (eL eI), kV (eT (eT eI)), kV eI, kJ, kJ, kO (eL (eO eI)), kV eI, kJ, kJ, kV eI, kJ, kJ, kJ, kJ, kN]
abbrev H30 : Type := (List Int) × (List Int) × (List Int) × Int × Int × Int × Int × Int × (List Int) × (List (List Int)) × Int × Unit × Unit × (List (Option Int)) × Int × Unit × Unit × Int × Unit × Unit × Unit × Unit × Unit × Unit
abbrev C31 : List K := [kV (eL eI), kV (eL eI), kO (eL eI), kV eI, kV eI, kV eI, kV eI, kV eI, kV (eL eI), kV (eT (eT eI)), kV eI, kJ, kJ, kO (eL (eO eI)), kV eI, kJ, kJ, kJ, kV (eT eI), kJ, kJ, kJ, kN]
abbrev H31 : Type := (List Int) × (List Int) × (List Int) × Int × Int × Int × Int × Int × (List Int) × (List (List Int)) × Int × Unit × Unit × (List (Option Int)) × Int × Unit × Unit × Unit × (List Int) × Unit × Unit × Unit × Unit × Unit
abbrev C32 : List K := [kV (eL eI), kV (eL eI), kO (eL eI), kV eI, kV eI, kV eI, kV eI, kV eI, kV (eL eI), kV (eT (eT eI)), kV eI, kJ, kJ, kO (eL (eO eI)), kV eI, kJ, kJ, kV eI, kV (eT eI), kJ, kJ, kJ, kN]
abbrev H32 : Type := (List Int) × (List Int) × (List Int) × Int × Int × Int × Int × Int × (List Int) × (List (List Int)) × Int × Unit × Unit × (List (Option Int)) × Int × Unit × Unit × Int × (List Int) × Unit × Unit × Unit × Unit × Unit
abbrev C33 : List K := [kV (eL eI), kV (eL eI), kO (eL eI), kV eI, kV eI, kV eI, kV eI, kV eI, kV (eL eI), kV (eT (eT eI)), kV eI, kJ, kJ, kO (eL (eO eI)), kV eI, kJ, kJ, kV eI, kV (eT eI), kJ, kJ, kJ, kV eI]
abbrev H33 : Type := (List Int) × (List Int) × (List Int) × Int × Int × Int × Int × Int × (List Int) × (List (List Int)) × Int × Unit × Unit × (List (Option Int)) × Int × Unit × Unit × Int × (List Int) × Unit × Unit × Unit × Int × Unit
abbrev C34 : List K := [kV (eL eI), kV (eL eI), kO (eL eI), kV eI, kV eI, kV eI, kV eI, kV eI, kV (eL eI), kV (eT (eT eI)), kV eI, kJ, kJ, kO (eL (eO eI)), kV eI, kJ, kJ, kV eI, kV (eT eI), kJ, kV (eL eI), kJ, kN]
abbrev H34 : Type := (List Int) × (List Int) × (List Int) × Int × Int × Int × Int × Int × (List Int) × (List (List Int)) × Int × Unit × Unit × (List (Option Int)) × Int × Unit × Unit × Int × (List Int) × Unit × (List Int) × Unit × Unit × Unit
abbrev C35 : List K := [kV (eL eI), kV (eL eI), kO (eL eI), kV eI, kV eI, kV eI, kV eI, kV eI, kV (eL eI), kV (eT (eT eI)), kV eI, kJ, kJ, kO (eL (eO eI)), kV eI, kJ, kJ, kV eI, kV (eT eI), kJ, kV (eL eI), kJ, kV eI]
abbrev H35 : Type := (List Int) × (List Int) × (List Int) × Int × Int × Int × Int × Int × (List Int) × (List (List Int)) × Int × Unit × Unit × (List (Option Int)) × Int × Unit × Unit × Int × (List Int) × Unit × (List Int) × Unit × Int × Unit
abbrev C36 : List K := [kV (eL eI), kV (eL eI), kO (eL eI), kV eI, kV eI, kV eI, kV eI, kV eI, kV (eL eI), kV (eT (eT eI)), kV eI, kJ, kJ, kO (eL (eO eI)), kV eI, kJ, kJ, kV eI, kV (eT eI), kJ, kV (eL eI), kV (eL eI), kN]
abbrev H36 : Type := (List Int) × (List Int) × (List Int) × Int × Int × Int × Int × Int × (List Int) × (List (List Int)) × Int × Unit × Unit × (List (Option Int)) × Int × Unit × Unit × Int × (List Int) × Unit × (List Int) × (List Int) × Unit × Unit
abbrev S_law_L6 := {w : H31 → Option H28 // ∀ n, TS tab (callF tab n) C31 b_law_L6 w (PL C28)}
def s_law_L6 : S_law_L6 := ⟨_, fun n => (ts_asgV (Γ1 := C31) (Γ2 := C32) (up := (fun x (γ : H31) => ((γ.1, γ.2.1, γ.2.2.1, γ.2.2.2.1, γ.2.2.2.2.1, γ.2.2.2.2.2.1, γ.2.2.2.2.2.2.1, γ.2.2.2.2.2.2.2.1, γ.2.2.2.2.2.2.2.2.1, γ.2.2.2.2.2.2.2.2.2.1, γ.2.2.2.2.2.2.2.2.2.2.1, γ.2.2.2.2.2.2.2.2.2.2.2.1, γ.2.2.2.2.2.2.2.2.2.2.2.2.1, γ.2.2.2.2.2.2.2.2.2.2.2.2.2.1, γ.2.2.2.2.2.2.2.2.2.2.2.2.2.2.1, γ.2.2.2.2.2.2.2.2.2.2.2.2.2.2.2.1, γ.2.2.2.2.2.2.2.2.2.2.2.2.2.2.2.2.1, x, γ.2.2.2.2.2.2.2.2.2.2.2.2.2.2.2.2.2.2) : H32))) (tm_keep (te_idx (i_T (e := eI)) (te_var (Γ := C31) (e := (eT eI)) (g := (fun γ : H31 => γ.2.2.2.2.2.2.2.2.2.2.2.2.2.2.2.2.2.2.1)) ⟨rg 18 rfl⟩) (te_con eI 1 rfl))) (nk0 _) (up_V 17 eI)
  (ts_asgV (Γ1 := C32) (Γ2 := C34) (up := (fun x (γ : H32) => ((γ.1, γ.2.1, γ.2.2.1, γ.2.2.2.1, γ.2.2.2.2.1, γ.2.2.2.2.2.1, γ.2.2.2.2.2.2.1, γ.2.2.2.2.2.2.2.1, γ.2.2.2.2.2.2.2.2.1, γ.2.2.2.2.2.2.2.2.2.1, γ.2.2.2.2.2.2.2.2.2.2.1, γ.2.2.2.2.2.2.2.2.2.2.2.1, γ.2.2.2.2.2.2.2.2.2.2.2.2.1, γ.2.2.2.2.2.2.2.2.2.2.2.2.2.1, γ.2.2.2.2.2.2.2.2.2.2.2.2.2.2.1, γ.2.2.2.2.2.2.2.2.2.2.2.2.2.2.2.1, γ.2.2.2.2.2.2.2.2.2.2.2.2.2.2.2.2.1, γ.2.2.2.2.2.2.2.2.2.2.2.2.2.2.2.2.2.1, γ.2.2.2.2.2.2.2.2.2.2.2.2.2.2.2.2.2.2.1, γ.2.2.2.2.2.2.2.2.2.2.2.2.2.2.2.2.2.2.2.1, x, γ.2.2.2.2.2.2.2.2.2.2.2.2.2.2.2.2.2.2.2.2.2) : H34))) (tm_keep (te_comp (Γ := C32) (Γw := C32) (Γ' := C33) (wk := (fun γ : H32 => ((γ.1, γ.2.1, γ.2.2.1, γ.2.2.2.1, γ.2.2.2.2.1, γ.2.2.2.2.2.1, γ.2.2.2.2.2.2.1, γ.2.2.2.2.2.2.2.1, γ.2.2.2.2.2.2.2.2.1, γ.2.2.2.2.2.2.2.2.2.1, γ.2.2.2.2.2.2.2.2.2.2.1, γ.2.2.2.2.2.2.2.2.2.2.2.1, γ.2.2.2.2.2.2.2.2.2.2.2.2.1, γ.2.2.2.2.2.2.2.2.2.2.2.2.2.1, γ.2.2.2.2.2.2.2.2.2.2.2.2.2.2.1, γ.2.2.2.2.2.2.2.2.2.2.2.2.2.2.2.1, γ.2.2.2.2.2.2.2.2.2.2.2.2.2.2.2.2.1, γ.2.2.2.2.2.2.2.2.2.2.2.2.2.2.2.2.2.1, γ.2.2.2.2.2.2.2.2.2.2.2.2.2.2.2.2.2.2.1, γ.2.2.2.2.2.2.2.2.2.2.2.2.2.2.2.2.2.2.2.1, γ.2.2.2.2.2.2.2.2.2.2.2.2.2.2.2.2.2.2.2.2.1, γ.2.2.2.2.2.2.2.2.2.2.2.2.2.2.2.2.2.2.2.2.2.1, (), γ.2.2.2.2.2.2.2.2.2.2.2.2.2.2.2.2.2.2.2.2.2.2.2) : H32))) (it_L (e := eI)) (te_rng (te_con eI 0 rfl) (te_con eI 3 rfl)) rfl (wk_cons (i := 22) wk_nil) (tg_nm (Γ := C32) (Γ' := C33) (up := (fun x (γ : H32) => ((γ.1, γ.2.1, γ.2.2.1, γ.2.2.2.1, γ.2.2.2.2.1, γ.2.2.2.2.2.1, γ.2.2.2.2.2.2.1, γ.2.2.2.2.2.2.2.1, γ.2.2.2.2.2.2.2.2.1, γ.2.2.2.2.2.2.2.2.2.1, γ.2.2.2.2.2.2.2.2.2.2.1, γ.2.2.2.2.2.2.2.2.2.2.2.1, γ.2.2.2.2.2.2.2.2.2.2.2.2.1, γ.2.2.2.2.2.2.2.2.2.2.2.2.2.1, γ.2.2.2.2.2.2.2.2.2.2.2.2.2.2.1, γ.2.2.2.2.2.2.2.2.2.2.2.2.2.2.2.1, γ.2.2.2.2.2.2.2.2.2.2.2.2.2.2.2.2.1, γ.2.2.2.2.2.2.2.2.2.2.2.2.2.2.2.2.2.1, γ.2.2.2.2.2.2.2.2.2.2.2.2.2.2.2.2.2.2.1, γ.2.2.2.2.2.2.2.2.2.2.2.2.2.2.2.2.2.2.2.1, γ.2.2.2.2.2.2.2.2.2.2.2.2.2.2.2.2.2.2.2.2.1, γ.2.2.2.2.2.2.2.2.2.2.2.2.2.2.2.2.2.2.2.2.2.1, x, γ.2.2.2.2.2.2.2.2.2.2.2.2.2.2.2.2.2.2.2.2.2.2.2) : H33))) (up_V 22 eI)) (tc_some (te_and (te_cmp (c_ntnO n_I) (te_sidx (i_L (e := (eO eI))) (la_O (Γ := C33) (e := (eL (eO eI))) (g := (fun γ : H33 => γ.2.2.2.2.2.2.2.2.2.2.2.2.2.1)) ⟨rg 13 rfl⟩) (te_var (Γ := C33) (e := eI) (g := (fun γ : H33 => γ.2.2.2.2.2.2.2.2.2.2.2.2.2.2.2.2.2.2.2.2.2.2.1)) ⟨rg 22 rfl⟩)) (te_con eU () rfl)) (te_and (te_cmp r_le (te_na (fun x => x) na_O (te_sidx (i_L (e := (eO eI))) (la_O (Γ := C33) (e := (eL (eO eI))) (g := (fun γ : H33 => γ.2.2.2.2.2.2.2.2.2.2.2.2.2.1)) ⟨rg 13 rfl⟩) (te_var (Γ := C33) (e := eI) (g := (fun γ : H33 => γ.2.2.2.2.2.2.2.2.2.2.2.2.2.2.2.2.2.2.2.2.2.2.1)) ⟨rg 22 rfl⟩))) (te_var (Γ := C33) (e := eI) (g := (fun γ : H33 => γ.2.2.2.2.2.2.2.2.2.2.2.2.2.2.1)) ⟨rg 14 rfl⟩)) (te_cmp r_lt (te_var (Γ := C33) (e := eI) (g := (fun γ : H33 => γ.2.2.2.2.2.2.2.2.2.2.2.2.2.2.1)) ⟨rg 14 rfl⟩) (te_bin o_add (te_na (fun x => x) na_O (te_sidx (i_L (e := (eO eI))) (la_O (Γ := C33) (e := (eL (eO eI))) (g := (fun γ : H33 => γ.2.2.2.2.2.2.2.2.2.2.2.2.2.1)) ⟨rg 13 rfl⟩) (te_var (Γ := C33) (e := eI) (g := (fun γ : H33 => γ.2.2.2.2.2.2.2.2.2.2.2.2.2.2.2.2.2.2.2.2.2.2.1)) ⟨rg 22 rfl⟩))) (te_idx (i_T (e := eI)) (te_idx (i_T (e := (eT eI))) (te_var (Γ := C33) (e := (eT (eT eI))) (g := (fun γ : H33 => γ.2.2.2.2.2.2.2.2.2.1)) ⟨rg 9 rfl⟩) (te_var (Γ := C33) (e := eI) (g := (fun γ : H33 => γ.2.2.2.2.2.2.2.2.2.2.2.2.2.2.2.2.2.2.2.2.2.2.1)) ⟨rg 22 rfl⟩)) (te_con eI 1 rfl))))))) (te_var (Γ := C33) (e := eI) (g := (fun γ : H33 => γ.2.2.2.2.2.2.2.2.2.2.2.2.2.2.2.2.2.2.2.2.2.2.1)) ⟨rg 22 rfl⟩))) (nk0 _) (up_V 20 (eL eI))
  (ts_asgV (Γ1 := C34) (Γ2 := C36) (up := (fun x (γ : H34) => ((γ.1, γ.2.1, γ.2.2.1, γ.2.2.2.1, γ.2.2.2.2.1, γ.2.2.2.2.2.1, γ.2.2.2.2.2.2.1, γ.2.2.2.2.2.2.2.1, γ.2.2.2.2.2.2.2.2.1, γ.2.2.2.2.2.2.2.2.2.1, γ.2.2.2.2.2.2.2.2.2.2.1, γ.2.2.2.2.2.2.2.2.2.2.2.1, γ.2.2.2.2.2.2.2.2.2.2.2.2.1, γ.2.2.2.2.2.2.2.2.2.2.2.2.2.1, γ.2.2.2.2.2.2.2.2.2.2.2.2.2.2.1, γ.2.2.2.2.2.2.2.2.2.2.2.2.2.2.2.1, γ.2.2.2.2.2.2.2.2.2.2.2.2.2.2.2.2.1, γ.2.2.2.2.2.2.2.2.2.2.2.2.2.2.2.2.2.1, γ.2.2.2.2.2.2.2.2.2.2.2.2.2.2.2.2.2.2.1, γ.2.2.2.2.2.2.2.2.2.2.2.2.2.2.2.2.2.2.2.1, γ.2.2.2.2.2.2.2.2.2.2.2.2.2.2.2.2.2.2.2.2.1, x, γ.2.2.2.2.2.2.2.2.2.2.2.2.2.2.2.2.2.2.2.2.2.2) : H36))) (tm_keep (te_comp (Γ := C34) (Γw := C34) (Γ' := C35) (wk := (fun γ : H34 => ((γ.1, γ.2.1, γ.2.2.1, γ.2.2.2.1, γ.2.2.2.2.1, γ.2.2.2.2.2.1, γ.2.2.2.2.2.2.1, γ.2.2.2.2.2.2.2.1, γ.2.2.2.2.2.2.2.2.1, γ.2.2.2.2.2.2.2.2.2.1, γ.2.2.2.2.2.2.2.2.2.2.1, γ.2.2.2.2.2.2.2.2.2.2.2.1, γ.2.2.2.2.2.2.2.2.2.2.2.2.1, γ.2.2.2.2.2.2.2.2.2.2.2.2.2.1, γ.2.2.2.2.2.2.2.2.2.2.2.2.2.2.1, γ.2.2.2.2.2.2.2.2.2.2.2.2.2.2.2.1, γ.2.2.2.2.2.2.2.2.2.2.2.2.2.2.2.2.1, γ.2.2.2.2.2.2.2.2.2.2.2.2.2.2.2.2.2.1, γ.2.2.2.2.2.2.2.2.2.2.2.2.2.2.2.2.2.2.1, γ.2.2.2.2.2.2.2.2.2.2.2.2.2.2.2.2.2.2.2.1, γ.2.2.2.2.2.2.2.2.2.2.2.2.2.2.2.2.2.2.2.2.1, γ.2.2.2.2.2.2.2.2.2.2.2.2.2.2.2.2.2.2.2.2.2.1, (), γ.2.2.2.2.2.2.2.2.2.2.2.2.2.2.2.2.2.2.2.2.2.2.2) : H34))) (it_L (e := eI)) (te_rng (te_con eI 0 rfl) (te_con eI 3 rfl)) rfl (wk_cons (i := 22) wk_nil) (tg_nm (Γ := C34) (Γ' := C35) (up := (fun x (γ : H34) => ((γ.1, γ.2.1, γ.2.2.1, γ.2.2.2.1, γ.2.2.2.2.1, γ.2.2.2.2.2.1, γ.2.2.2.2.2.2.1, γ.2.2.2.2.2.2.2.1, γ.2.2.2.2.2.2.2.2.1, γ.2.2.2.2.2.2.2.2.2.1, γ.2.2.2.2.2.2.2.2.2.2.1, γ.2.2.2.2.2.2.2.2.2.2.2.1, γ.2.2.2.2.2.2.2.2.2.2.2.2.1, γ.2.2.2.2.2.2.2.2.2.2.2.2.2.1, γ.2.2.2.2.2.2.2.2.2.2.2.2.2.2.1, γ.2.2.2.2.2.2.2.2.2.2.2.2.2.2.2.1, γ.2.2.2.2.2.2.2.2.2.2.2.2.2.2.2.2.1, γ.2.2.2.2.2.2.2.2.2.2.2.2.2.2.2.2.2.1, γ.2.2.2.2.2.2.2.2.2.2.2.2.2.2.2.2.2.2.1, γ.2.2.2.2.2.2.2.2.2.2.2.2.2.2.2.2.2.2.2.1, γ.2.2.2.2.2.2.2.2.2.2.2.2.2.2.2.2.2.2.2.2.1, γ.2.2.2.2.2.2.2.2.2.2.2.2.2.2.2.2.2.2.2.2.2.1, x, γ.2.2.2.2.2.2.2.2.2.2.2.2.2.2.2.2.2.2.2.2.2.2.2) : H35))) (up_V 22 eI)) (tc_some (te_and (te_cmp (c_isnO n_I) (te_sidx (i_L (e := (eO eI))) (la_O (Γ := C35) (e := (eL (eO eI))) (g := (fun γ : H35 => γ.2.2.2.2.2.2.2.2.2.2.2.2.2.1)) ⟨rg 13 rfl⟩) (te_var (Γ := C35) (e := eI) (g := (fun γ : H35 => γ.2.2.2.2.2.2.2.2.2.2.2.2.2.2.2.2.2.2.2.2.2.2.1)) ⟨rg 22 rfl⟩)) (te_con eU () rfl)) (te_cmp (r_ltN (or_T or_I) (Nat.le_of_ble_eq_true rfl)) (te_tup rfl (tl_cons (te_idx (i_T (e := eI)) (te_idx (i_T (e := (eT eI))) (te_var (Γ := C35) (e := (eT (eT eI))) (g := (fun γ : H35 => γ.2.2.2.2.2.2.2.2.2.1)) ⟨rg 9 rfl⟩) (te_var (Γ := C35) (e := eI) (g := (fun γ : H35 => γ.2.2.2.2.2.2.2.2.2.2.2.2.2.2.2.2.2.2.2.2.2.2.1)) ⟨rg 22 rfl⟩)) (te_con eI 0 rfl)) (tl_cons (te_var (Γ := C35) (e := eI) (g := (fun γ : H35 => γ.2.2.2.2.2.2.2.2.2.2.2.2.2.2.2.2.2.2.2.2.2.2.1)) ⟨rg 22 rfl⟩) tl_nil))) (te_tup rfl (tl_cons (te_idx (i_T (e := eI)) (te_idx (i_T (e := (eT eI))) (te_var (Γ := C35) (e := (eT (eT eI))) (g := (fun γ : H35 => γ.2.2.2.2.2.2.2.2.2.1)) ⟨rg 9 rfl⟩) (te_var (Γ := C35) (e := eI) (g := (fun γ : H35 => γ.2.2.2.2.2.2.2.2.2.2.2.2.2.2.2.2.2.1)) ⟨rg 17 rfl⟩)) (te_con eI 0 rfl)) (tl_cons (te_var (Γ := C35) (e := eI) (g := (fun γ : H35 => γ.2.2.2.2.2.2.2.2.2.2.2.2.2.2.2.2.2.1)) ⟨rg 17 rfl⟩) tl_nil)))))) (te_var (Γ := C35) (e := eI) (g := (fun γ : H35 => γ.2.2.2.2.2.2.2.2.2.2.2.2.2.2.2.2.2.2.2.2.2.2.1)) ⟨rg 22 rfl⟩))) (nk0 _) (up_V 21 (eL eI))
  (ts_if (Γ1 := C36) (tt_keep (te_and (te_cmp (c_isnO n_I) (te_sidx (i_L (e := (eO eI))) (la_O (Γ := C36) (e := (eL (eO eI))) (g := (fun γ : H36 => γ.2.2.2.2.2.2.2.2.2.2.2.2.2.1)) ⟨rg 13 rfl⟩) (te_var (Γ := C36) (e := eI) (g := (fun γ : H36 => γ.2.2.2.2.2.2.2.2.2.2.2.2.2.2.2.2.2.1)) ⟨rg 17 rfl⟩)) (te_con eU () rfl)) (te_and (te_cmp r_le (te_idx (i_T (e := eI)) (te_idx (i_T (e := (eT eI))) (te_var (Γ := C36) (e := (eT (eT eI))) (g := (fun γ : H36 => γ.2.2.2.2.2.2.2.2.2.1)) ⟨rg 9 rfl⟩) (te_var (Γ := C36) (e := eI) (g := (fun γ : H36 => γ.2.2.2.2.2.2.2.2.2.2.2.2.2.2.2.2.2.1)) ⟨rg 17 rfl⟩)) (te_con eI 0 rfl)) (te_var (Γ := C36) (e := eI) (g := (fun γ : H36 => γ.2.2.2.2.2.2.2.2.2.2.2.2.2.2.1)) ⟨rg 14 rfl⟩)) (te_and (te_cmp r_lt (te_bi1 (bl_len (e := eI)) (te_var (Γ := C36) (e := (eL eI)) (g := (fun γ : H36 => γ.2.2.2.2.2.2.2.2.2.2.2.2.2.2.2.2.2.2.2.2.1)) ⟨rg 20 rfl⟩)) (te_var (Γ := C36) (e := eI) (g := (fun γ : H36 => γ.2.2.2.2.2.2.2.2.2.2.1)) ⟨rg 10 rfl⟩)) (te_cmp r_eq (te_bi1 (bl_len (e := eI)) (te_var (Γ := C36) (e := (eL eI)) (g := (fun γ : H36 => γ.2.2.2.2.2.2.2.2.2.2.2.2.2.2.2.2.2.2.2.2.2.1)) ⟨rg 21 rfl⟩)) (te_con eI 0 rfl))))))
  (ts_set (Γ1 := C36) (s_L (e := (eO eI))) (tm_keep (te_co (e2 := (eO eI)) (fun x => some ((fun x => x) x)) (fun x => ((fun _ => rfl)) x) (te_var (Γ := C36) (e := eI) (g := (fun γ : H36 => γ.2.2.2.2.2.2.2.2.2.2.2.2.2.2.1)) ⟨rg 14 rfl⟩))) (um_O (Γ := C36) (e := (eL (eO eI))) (g := (fun γ : H36 => γ.2.2.2.2.2.2.2.2.2.2.2.2.2.1)) (up := (fun x (γ : H36) => ((γ.1, γ.2.1, γ.2.2.1, γ.2.2.2.1, γ.2.2.2.2.1, γ.2.2.2.2.2.1, γ.2.2.2.2.2.2.1, γ.2.2.2.2.2.2.2.1, γ.2.2.2.2.2.2.2.2.1, γ.2.2.2.2.2.2.2.2.2.1, γ.2.2.2.2.2.2.2.2.2.2.1, γ.2.2.2.2.2.2.2.2.2.2.2.1, γ.2.2.2.2.2.2.2.2.2.2.2.2.1, x, γ.2.2.2.2.2.2.2.2.2.2.2.2.2.2) : H36))) ⟨rg 13 rfl⟩ (up_O 13 (eL (eO eI)))) (te_var (Γ := C36) (e := eI) (g := (fun γ : H36 => γ.2.2.2.2.2.2.2.2.2.2.2.2.2.2.2.2.2.1)) ⟨rg 17 rfl⟩)
  (ts_nil (en_lnx (Γ := C36) (Γl := C28) (wk := (fun γ : H36 => ((γ.1, γ.2.1, γ.2.2.1, γ.2.2.2.1, γ.2.2.2.2.1, γ.2.2.2.2.2.1, γ.2.2.2.2.2.2.1, γ.2.2.2.2.2.2.2.1, γ.2.2.2.2.2.2.2.2.1, γ.2.2.2.2.2.2.2.2.2.1, γ.2.2.2.2.2.2.2.2.2.2.1, γ.2.2.2.2.2.2.2.2.2.2.2.1, γ.2.2.2.2.2.2.2.2.2.2.2.2.1, γ.2.2.2.2.2.2.2.2.2.2.2.2.2.1, γ.2.2.2.2.2.2.2.2.2.2.2.2.2.2.1, γ.2.2.2.2.2.2.2.2.2.2.2.2.2.2.2.1, γ.2.2.2.2.2.2.2.2.2.2.2.2.2.2.2.2.1, (), (), γ.2.2.2.2.2.2.2.2.2.2.2.2.2.2.2.2.2.2.2.1, (), (), γ.2.2.2.2.2.2.2.2.2.2.2.2.2.2.2.2.2.2.2.2.2.2) : H28))) (wn_s (wn_s (wn_s (wn_s (wn_s (wn_s (wn_s (wn_s (wn_s (wn_s (wn_s (wn_s (wn_s (wn_s (wn_s (wn_s (wn_s (wn_jV (wn_jV (wn_s (wn_jV (wn_jV wn_id)))))))))))))))))))))))))
  (ts_nil (en_lnx (Γ := C36) (Γl := C28) (wk := (fun γ : H36 => ((γ.1, γ.2.1, γ.2.2.1, γ.2.2.2.1, γ.2.2.2.2.1, γ.2.2.2.2.2.1, γ.2.2.2.2.2.2.1, γ.2.2.2.2.2.2.2.1, γ.2.2.2.2.2.2.2.2.1, γ.2.2.2.2.2.2.2.2.2.1, γ.2.2.2.2.2.2.2.2.2.2.1, γ.2.2.2.2.2.2.2.2.2.2.2.1, γ.2.2.2.2.2.2.2.2.2.2.2.2.1, γ.2.2.2.2.2.2.2.2.2.2.2.2.2.1, γ.2.2.2.2.2.2.2.2.2.2.2.2.2.2.1, γ.2.2.2.2.2.2.2.2.2.2.2.2.2.2.2.1, γ.2.2.2.2.2.2.2.2.2.2.2.2.2.2.2.2.1, (), (), γ.2.2.2.2.2.2.2.2.2.2.2.2.2.2.2.2.2.2.2.1, (), (), γ.2.2.2.2.2.2.2.2.2.2.2.2.2.2.2.2.2.2.2.2.2.2) : H28))) (wn_s (wn_s (wn_s (wn_s (wn_s (wn_s (wn_s (wn_s (wn_s (wn_s (wn_s (wn_s (wn_s (wn_s (wn_s (wn_s (wn_s (wn_jV (wn_jV (wn_s (wn_jV (wn_jV wn_id))))))))))))))))))))))))))))⟩
def z_law_L6 : S_law_L6 := s_law_L6
abbrev S_law_L5 := {w : H28 → Option H27 // ∀ n, TS tab (callF tab n) C28 b_law_L5 w (PL C27)}
def s_law_L5 (s_law_L6 : S_law_L6) : S_law_L5 := ⟨_, fun n => (ts_for (Γ1 := C28) (Γl := C28) (Γb := C31) (wk := (fun γ : H28 => γ)) (ti_keep (Γ := C28) (Γ' := C28) (wk := fun γ : H28 => γ) (it_L (e := (eT eI))) fz_nil (te_bi1 (bl_sort (or_T or_I) (ln_L ln_I) ok_T (Nat.le_of_ble_eq_true rfl)) (te_comp (Γ := C28) (Γw := C29) (Γ' := C30) (wk := (fun γ : H28 => ((γ.1, γ.2.1, γ.2.2.1, γ.2.2.2.1, γ.2.2.2.2.1, γ.2.2.2.2.2.1, γ.2.2.2.2.2.2.1, γ.2.2.2.2.2.2.2.1, γ.2.2.2.2.2.2.2.2.1, γ.2.2.2.2.2.2.2.2.2.1, γ.2.2.2.2.2.2.2.2.2.2.1, γ.2.2.2.2.2.2.2.2.2.2.2.1, γ.2.2.2.2.2.2.2.2.2.2.2.2.1, γ.2.2.2.2.2.2.2.2.2.2.2.2.2.1, γ.2.2.2.2.2.2.2.2.2.2.2.2.2.2.1, γ.2.2.2.2.2.2.2.2.2.2.2.2.2.2.2.1, γ.2.2.2.2.2.2.2.2.2.2.2.2.2.2.2.2.1, (), γ.2.2.2.2.2.2.2.2.2.2.2.2.2.2.2.2.2.2) : H29))) (it_L (e := eI)) (te_rng (te_con eI 0 rfl) (te_con eI 3 rfl)) rfl (wk_cons (i := 17) wk_nil) (tg_nm (Γ := C29) (Γ' := C30) (up := (fun x (γ : H29) => ((γ.1, γ.2.1, γ.2.2.1, γ.2.2.2.1, γ.2.2.2.2.1, γ.2.2.2.2.2.1, γ.2.2.2.2.2.2.1, γ.2.2.2.2.2.2.2.1, γ.2.2.2.2.2.2.2.2.1, γ.2.2.2.2.2.2.2.2.2.1, γ.2.2.2.2.2.2.2.2.2.2.1, γ.2.2.2.2.2.2.2.2.2.2.2.1, γ.2.2.2.2.2.2.2.2.2.2.2.2.1, γ.2.2.2.2.2.2.2.2.2.2.2.2.2.1, γ.2.2.2.2.2.2.2.2.2.2.2.2.2.2.1, γ.2.2.2.2.2.2.2.2.2.2.2.2.2.2.2.1, γ.2.2.2.2.2.2.2.2.2.2.2.2.2.2.2.2.1, x, γ.2.2.2.2.2.2.2.2.2.2.2.2.2.2.2.2.2.2) : H30))) (up_V 17 eI)) tc_none (te_tup rfl (tl_cons (te_idx (i_T (e := eI)) (te_idx (i_T (e := (eT eI))) (te_var (Γ := C30) (e := (eT (eT eI))) (g := (fun γ : H30 => γ.2.2.2.2.2.2.2.2.2.1)) ⟨rg 9 rfl⟩) (te_var (Γ := C30) (e := eI) (g := (fun γ : H30 => γ.2.2.2.2.2.2.2.2.2.2.2.2.2.2.2.2.2.1)) ⟨rg 17 rfl⟩)) (te_con eI 0 rfl)) (tl_cons (te_var (Γ := C30) (e := eI) (g := (fun γ : H30 => γ.2.2.2.2.2.2.2.2.2.2.2.2.2.2.2.2.2.1)) ⟨rg 17 rfl⟩) tl_nil)))))) wn_id (tg_nm (Γ := C28) (Γ' := C31) (up := (fun x (γ : H28) => ((γ.1, γ.2.1, γ.2.2.1, γ.2.2.2.1, γ.2.2.2.2.1, γ.2.2.2.2.2.1, γ.2.2.2.2.2.2.1, γ.2.2.2.2.2.2.2.1, γ.2.2.2.2.2.2.2.2.1, γ.2.2.2.2.2.2.2.2.2.1, γ.2.2.2.2.2.2.2.2.2.2.1, γ.2.2.2.2.2.2.2.2.2.2.2.1, γ.2.2.2.2.2.2.2.2.2.2.2.2.1, γ.2.2.2.2.2.2.2.2.2.2.2.2.2.1, γ.2.2.2.2.2.2.2.2.2.2.2.2.2.2.1, γ.2.2.2.2.2.2.2.2.2.2.2.2.2.2.2.1, γ.2.2.2.2.2.2.2.2.2.2.2.2.2.2.2.2.1, γ.2.2.2.2.2.2.2.2.2.2.2.2.2.2.2.2.2.1, x, γ.2.2.2.2.2.2.2.2.2.2.2.2.2.2.2.2.2.2.2) : H31))) (up_V 18 (eT eI)))
  (s_law_L6.2 _)
  (ts_nil (en_lnx (Γ := C28) (Γl := C27) (wk := (fun γ : H28 => ((γ.1, γ.2.1, γ.2.2.1, γ.2.2.2.1, γ.2.2.2.2.1, γ.2.2.2.2.2.1, γ.2.2.2.2.2.2.1, γ.2.2.2.2.2.2.2.1, γ.2.2.2.2.2.2.2.2.1, γ.2.2.2.2.2.2.2.2.2.1, γ.2.2.2.2.2.2.2.2.2.2.1, γ.2.2.2.2.2.2.2.2.2.2.2.1, γ.2.2.2.2.2.2.2.2.2.2.2.2.1, γ.2.2.2.2.2.2.2.2.2.2.2.2.2.1, (), γ.2.2.2.2.2.2.2.2.2.2.2.2.2.2.2) : H27))) (wn_s (wn_s (wn_s (wn_s (wn_s (wn_s (wn_s (wn_s (wn_s (wn_s (wn_s (wn_s (wn_s (wn_s (wn_jV wn_id))))))))))))))))))⟩
def z_law_L5 : S_law_L5 := s_law_L5 z_law_L6
abbrev C37 : List K := [kV (eT (eT eI)), kV eI]
abbrev C38 : List K := [kV eB, kV eI]
abbrev H38 : Type := Bool × Int × Unit
abbrev S_require := {g : Bool → Int → Option Unit // ∀ n, FS (callF tab (n + 1)) f_require C38 eU (fun a : H38 => g a.1 a.2.1)}
def p_require : {g : H38 → Option Unit // ∀ n, FS (callF tab (n + 1)) f_require C38 eU g} := ⟨_, fun n => fs_of (fn := ⟨2, 2, [], 1, b_require⟩) (ps := C38) (Γ := C38) (st := fun a : H38 => ((a.1, a.2.1, ()) : H38)) rfl rfl rfl rfl rfl (start_rel (fn := ⟨2, 2, [], 1, b_require⟩) (ps := C38) rfl rfl rfl)
  (ts_if (Γ1 := C38) (tt_keep (te_not (te_var (Γ := C38) (e := eB) (g := (fun γ : H38 => γ.1)) ⟨rg 0 rfl⟩)))
  ts_bot
  (ts_nil (en_fn () rfl rfl)))⟩
def s_require : S_require := ⟨fun a0 a1 => (p_require).1 (a0, a1, ()), fun n => (p_require).2 n⟩
def z_require : S_require := s_require
abbrev C39 : List K := [kV (eT (eT eI)), kN]
abbrev C40 : List K := [kV (eT (eT eI)), kV eI, kV eI]
abbrev H40 : Type := (List (List Int)) × Int × Int × Unit
abbrev S_is_sequence := {g : (List (List Int)) → Int → Int → Option Bool // ∀ n, FS (callF tab (n + 1)) f_is_sequence C40 eB (fun a : H40 => g a.1 a.2.1 a.2.2.1)}
def p_is_sequence : {g : H40 → Option Bool // ∀ n, FS (callF tab (n + 1)) f_is_sequence C40 eB g} := ⟨_, fun n => fs_of (fn := ⟨3, 3, [], 0, b_is_sequence⟩) (ps := C40) (Γ := C40) (st := fun a : H40 => ((a.1, a.2.1, a.2.2.1, ()) : H40)) rfl rfl rfl rfl rfl (start_rel (fn := ⟨3, 3, [], 0, b_is_sequence⟩) (ps := C40) rfl rfl rfl)
  (ts_ret (tm_keep (te_and (te_isa true (nc_T (nc_T nc_I)).plain (fun _ => rfl) (te_var (Γ := C40) (e := (eT (eT eI))) (g := (fun γ : H40 => γ.1)) ⟨rg 0 rfl⟩)) (te_chain r_le r_le (te_var (Γ := C40) (e := eI) (g := (fun γ : H40 => γ.2.1)) ⟨rg 1 rfl⟩) (te_bi1 (bt_len (e := (eT eI))) (te_var (Γ := C40) (e := (eT (eT eI))) (g := (fun γ : H40 => γ.1)) ⟨rg 0 rfl⟩)) (te_var (Γ := C40) (e := eI) (g := (fun γ : H40 => γ.2.2.1)) ⟨rg 2 rfl⟩)))) (ri_fn rfl (fun _ => rfl)))⟩
def s_is_sequence : S_is_sequence := ⟨fun a0 a1 a2 => (p_is_sequence).1 (a0, a1, a2, ()), fun n => (p_is_sequence).2 n⟩
def z_is_sequence : S_is_sequence := s_is_sequence
abbrev H39 : Type := (List (List Int)) × Unit × Unit
abbrev C41 : List K := [kV (eT (eT eI)), kV (eT eI)]
abbrev H41 : Type := (List (List Int)) × (List Int) × Unit
abbrev C42 : List K := [kV (eT eI), kV eI, kV eI]
abbrev H42 : Type := (List Int) × Int × Int × Unit
abbrev S_is_sequence_2 := {g : (List Int) → Int → Int → Option Bool // ∀ n, FS (callF tab (n + 1)) f_is_sequence C42 eB (fun a : H42 => g a.1 a.2.1 a.2.2.1)}
def p_is_sequence_2 : {g : H42 → Option Bool // ∀ n, FS (callF tab (n + 1)) f_is_sequence C42 eB g} := ⟨_, fun n => fs_of (fn := ⟨3, 3, [], 0, b_is_sequence⟩) (ps := C42) (Γ := C42) (st := fun a : H42 => ((a.1, a.2.1, a.2.2.1, ()) : H42)) rfl rfl rfl rfl rfl (start_rel (fn := ⟨3, 3, [], 0, b_is_sequence⟩) (ps := C42) rfl rfl rfl)
  (ts_ret (tm_keep (te_and (te_isa true (nc_T nc_I).plain (fun _ => rfl) (te_var (Γ := C42) (e := (eT eI)) (g := (fun γ : H42 => γ.1)) ⟨rg 0 rfl⟩)) (te_chain r_le r_le (te_var (Γ := C42) (e := eI) (g := (fun γ : H42 => γ.2.1)) ⟨rg 1 rfl⟩) (te_bi1 (bt_len (e := eI)) (te_var (Γ := C42) (e := (eT eI)) (g := (fun γ : H42 => γ.1)) ⟨rg 0 rfl⟩)) (te_var (Γ := C42) (e := eI) (g := (fun γ : H42 => γ.2.2.1)) ⟨rg 2 rfl⟩)))) (ri_fn rfl (fun _ => rfl)))⟩
def s_is_sequence_2 : S_is_sequence_2 := ⟨fun a0 a1 a2 => (p_is_sequence_2).1 (a0, a1, a2, ()), fun n => (p_is_sequence_2).2 n⟩
def z_is_sequence_2 : S_is_sequence_2 := s_is_sequence_2
abbrev C43 : List K := [kV (eT eI), kN, kN]
abbrev H43 : Type := (List Int) × Unit × Unit × Unit
abbrev C44 : List K := [kV (eT eI), kV eI, kN]
abbrev H44 : Type := (List Int) × Int × Unit × Unit
abbrev C45 : List K := [kV eI, kV eI, kV eI]
abbrev C46 : List K := [kV eI]
abbrev H46 : Type := Int × Unit
abbrev S_is_integer := {g : Int → Option Bool // ∀ n, FS (callF tab (n + 1)) f_is_integer C46 eB (fun a : H46 => g a.1)}
def p_is_integer : {g : H46 → Option Bool // ∀ n, FS (callF tab (n + 1)) f_is_integer C46 eB g} := ⟨_, fun n => fs_of (fn := ⟨1, 1, [], 0, b_is_integer⟩) (ps := C46) (Γ := C46) (st := fun a : H46 => ((a.1, ()) : H46)) rfl rfl rfl rfl rfl (start_rel (fn := ⟨1, 1, [], 0, b_is_integer⟩) (ps := C46) rfl rfl rfl)
  (ts_ret (tm_keep (te_and (te_isa true nc_I.plain (fun _ => rfl) (te_var (Γ := C46) (e := eI) (g := (fun γ : H46 => γ.1)) ⟨rg 0 rfl⟩)) (te_not (te_isa false nc_I.plain (fun _ => rfl) (te_var (Γ := C46) (e := eI) (g := (fun γ : H46 => γ.1)) ⟨rg 0 rfl⟩))))) (ri_fn rfl (fun _ => rfl)))⟩
def s_is_integer : S_is_integer := ⟨fun a0 => (p_is_integer).1 (a0, ()), fun n => (p_is_integer).2 n⟩
def z_is_integer : S_is_integer := s_is_integer
abbrev H45 : Type := Int × Int × Int × Unit
abbrev S_is_between := {g : Int → Int → Int → Option Bool // ∀ n, FS (callF tab (n + 2)) f_is_between C45 eB (fun a : H45 => g a.1 a.2.1 a.2.2.1)}
def p_is_between (s_is_integer : S_is_integer) : {g : H45 → Option Bool // ∀ n, FS (callF tab (n + 2)) f_is_between C45 eB g} := ⟨_, fun n => fs_of (fn := ⟨3, 3, [], 0, b_is_between⟩) (ps := C45) (Γ := C45) (st := fun a : H45 => ((a.1, a.2.1, a.2.2.1, ()) : H45)) rfl rfl rfl rfl rfl (start_rel (fn := ⟨3, 3, [], 0, b_is_between⟩) (ps := C45) rfl rfl rfl)
  (ts_ret (tm_keep (te_and (te_call (fn := ⟨1, 1, [], 0, b_is_integer⟩) rfl rfl (s_is_integer.2 _) (ta_cons (te_var (Γ := C45) (e := eI) (g := (fun γ : H45 => γ.1)) ⟨rg 0 rfl⟩) ta_nil)) (te_chain r_le r_le (te_var (Γ := C45) (e := eI) (g := (fun γ : H45 => γ.2.1)) ⟨rg 1 rfl⟩) (te_var (Γ := C45) (e := eI) (g := (fun γ : H45 => γ.1)) ⟨rg 0 rfl⟩) (te_var (Γ := C45) (e := eI) (g := (fun γ : H45 => γ.2.2.1)) ⟨rg 2 rfl⟩)))) (ri_fn rfl (fun _ => rfl)))⟩
def s_is_between (s_is_integer : S_is_integer) : S_is_between := ⟨fun a0 a1 a2 => (p_is_between s_is_integer).1 (a0, a1, a2, ()), fun n => (p_is_between s_is_integer).2 n⟩
def z_is_between : S_is_between := s_is_between z_is_integer
abbrev C47 : List K := [kV (eT eI)]
abbrev H47 : Type := (List Int) × Unit
abbrev S_is_ship := {g : (List Int) → Option Bool // ∀ n, FS (callF tab (n + 3)) f_is_ship C47 eB (fun a : H47 => g a.1)}
def p_is_ship (s_is_sequence_2 : S_is_sequence_2) (s_is_between : S_is_between) : {g : H47 → Option Bool // ∀ n, FS (callF tab (n + 3)) f_is_ship C47 eB g} := ⟨_, fun n => fs_of (fn := ⟨1, 3, [], 0, b_is_ship⟩) (ps := C47) (Γ := C43) (st := fun a : H47 => ((a.1, (), (), ()) : H43)) rfl rfl rfl rfl rfl (start_rel (fn := ⟨1, 3, [], 0, b_is_ship⟩) (ps := C47) rfl rfl rfl)
  (ts_if (Γ1 := C43) (tt_keep (te_not (te_call (fn := ⟨3, 3, [], 0, b_is_sequence⟩) rfl rfl (s_is_sequence_2.2 _) (ta_cons (te_var (Γ := C43) (e := (eT eI)) (g := (fun γ : H43 => γ.1)) ⟨rg 0 rfl⟩) (ta_cons (te_con eI 2 rfl) (ta_cons (te_con eI 2 rfl) ta_nil))))))
  (ts_ret (tm_keep (te_con eB false rfl)) (ri_fn rfl (fun _ => rfl)))
  (ts_asgT (Γ1 := C43) (Γ2 := C42) (tm_keep (te_var (Γ := C43) (e := (eT eI)) (g := (fun γ : H43 => γ.1)) ⟨rg 0 rfl⟩)) (tg_T (tgs_cons (tg_nm (Γ := C43) (Γ' := C44) (up := (fun x (γ : H43) => ((γ.1, x, γ.2.2) : H44))) (up_V 1 eI)) (tgs_cons (tg_nm (Γ := C44) (Γ' := C42) (up := (fun x (γ : H44) => ((γ.1, γ.2.1, x, γ.2.2.2) : H42))) (up_V 2 eI)) (tgs_nil (e := eI) (Γ := C42)))))
  (ts_ret (tm_keep (te_and (te_call (fn := ⟨3, 3, [], 0, b_is_between⟩) rfl rfl (s_is_between.2 _) (ta_cons (te_var (Γ := C42) (e := eI) (g := (fun γ : H42 => γ.2.1)) ⟨rg 1 rfl⟩) (ta_cons (te_con eI 0 rfl) (ta_cons (te_con eI 200 rfl) ta_nil)))) (te_call (fn := ⟨3, 3, [], 0, b_is_between⟩) rfl rfl (s_is_between.2 _) (ta_cons (te_var (Γ := C42) (e := eI) (g := (fun γ : H42 => γ.2.2.1)) ⟨rg 2 rfl⟩) (ta_cons (te_con eI 1 rfl) (ta_cons (te_con eI 50 rfl) ta_nil)))))) (ri_fn rfl (fun _ => rfl)))))⟩
def s_is_ship (s_is_sequence_2 : S_is_sequence_2) (s_is_between : S_is_between) : S_is_ship := ⟨fun a0 => (p_is_ship s_is_sequence_2 s_is_between).1 (a0, ()), fun n => (p_is_ship s_is_sequence_2 s_is_between).2 n⟩
def z_is_ship : S_is_ship := s_is_ship z_is_sequence_2 z_is_between
abbrev C48 : List K := [kV (eT (eT eI))]
abbrev H48 : Type := (List (List Int)) × Unit
abbrev S_are_ships := {g : (List (List Int)) → Option Bool // ∀ n, FS (callF tab (n + 4)) f_are_ships C48 eB (fun a : H48 => g a.1)}
def p_are_ships (s_is_sequence : S_is_sequence) (s_is_ship : S_is_ship) : {g : H48 → Option Bool // ∀ n, FS (callF tab (n + 4)) f_are_ships C48 eB g} := ⟨_, fun n => fs_of (fn := ⟨1, 2, [], 0, b_are_ships⟩) (ps := C48) (Γ := C39) (st := fun a : H48 => ((a.1, (), ()) : H39)) rfl rfl rfl rfl rfl (start_rel (fn := ⟨1, 2, [], 0, b_are_ships⟩) (ps := C48) rfl rfl rfl)
  (ts_ret (tm_keep (te_and (te_call (fn := ⟨3, 3, [], 0, b_is_sequence⟩) rfl rfl (s_is_sequence.2 _) (ta_cons (te_var (Γ := C39) (e := (eT (eT eI))) (g := (fun γ : H39 => γ.1)) ⟨rg 0 rfl⟩) (ta_cons (te_con eI 0 rfl) (ta_cons (te_con eI 7 rfl) ta_nil)))) (te_bi1 bl_all (te_comp (Γ := C39) (Γw := C39) (Γ' := C41) (wk := (fun γ : H39 => ((γ.1, (), γ.2.2) : H39))) (it_T (e := (eT eI))) (te_var (Γ := C39) (e := (eT (eT eI))) (g := (fun γ : H39 => γ.1)) ⟨rg 0 rfl⟩) rfl (wk_cons (i := 1) wk_nil) (tg_nm (Γ := C39) (Γ' := C41) (up := (fun x (γ : H39) => ((γ.1, x, γ.2.2) : H41))) (up_V 1 (eT eI))) tc_none (te_call (fn := ⟨1, 3, [], 0, b_is_ship⟩) rfl rfl (s_is_ship.2 _) (ta_cons (te_var (Γ := C41) (e := (eT eI)) (g := (fun γ : H41 => γ.2.1)) ⟨rg 1 rfl⟩) ta_nil)))))) (ri_fn rfl (fun _ => rfl)))⟩
def s_are_ships (s_is_sequence : S_is_sequence) (s_is_ship : S_is_ship) : S_are_ships := ⟨fun a0 => (p_are_ships s_is_sequence s_is_ship).1 (a0, ()), fun n => (p_are_ships s_is_sequence s_is_ship).2 n⟩
def z_are_ships : S_are_ships := s_are_ships z_is_sequence z_is_ship
abbrev H37 : Type := (List (List Int)) × Int × Unit
abbrev S_require_quay := {g : (List (List Int)) → Int → Option Unit // ∀ n, FS (callF tab (n + 5)) f_require_quay C37 eU (fun a : H37 => g a.1 a.2.1)}
def p_require_quay (s_require : S_require) (s_are_ships : S_are_ships) (s_is_between : S_is_between) : {g : H37 → Option Unit // ∀ n, FS (callF tab (n + 5)) f_require_quay C37 eU g} := ⟨_, fun n => fs_of (fn := ⟨2, 2, [], 1, b_require_quay⟩) (ps := C37) (Γ := C37) (st := fun a : H37 => ((a.1, a.2.1, ()) : H37)) rfl rfl rfl rfl rfl (start_rel (fn := ⟨2, 2, [], 1, b_require_quay⟩) (ps := C37) rfl rfl rfl)
  (ts_exp (Γ1 := C37) (tm_keep (te_call (fn := ⟨2, 2, [], 1, b_require⟩) rfl rfl (s_require.2 _) (ta_cons (te_call (fn := ⟨1, 2, [], 0, b_are_ships⟩) rfl rfl (s_are_ships.2 _) (ta_cons (te_var (Γ := C37) (e := (eT (eT eI))) (g := (fun γ : H37 => γ.1)) ⟨rg 0 rfl⟩) ta_nil)) (ta_cons (te_con eI 0 rfl) ta_nil))))
  (ts_exp (Γ1 := C37) (tm_keep (te_call (fn := ⟨2, 2, [], 1, b_require⟩) rfl rfl (s_require.2 _) (ta_cons (te_call (fn := ⟨3, 3, [], 0, b_is_between⟩) rfl rfl (s_is_between.2 _) (ta_cons (te_var (Γ := C37) (e := eI) (g := (fun γ : H37 => γ.2.1)) ⟨rg 1 rfl⟩) (ta_cons (te_con eI 1 rfl) (ta_cons (te_con eI 3 rfl) ta_nil)))) (ta_cons (te_con eI 1 rfl) ta_nil))))
  (ts_nil (en_fn () rfl rfl))))⟩
def s_require_quay (s_require : S_require) (s_are_ships : S_are_ships) (s_is_between : S_is_between) : S_require_quay := ⟨fun a0 a1 => (p_require_quay s_require s_are_ships s_is_between).1 (a0, a1, ()), fun n => (p_require_quay s_require s_are_ships s_is_between).2 n⟩
def z_require_quay : S_require_quay := s_require_quay z_require z_are_ships z_is_between
abbrev C49 : List K := [kV (eT (eT eI)), kV (eL eI), kV eI, kN, kN, kN, kN, kN, kN]
abbrev H49 : Type := (List (List Int)) × (List Int) × Int × Unit × Unit × Unit × Unit × Unit × Unit × Unit
abbrev C50 : List K := [kV (eT (eT eI)), kV (eL eI), kV eI, kO (eL eI), kN, kN, kN, kN, kN]
abbrev H50 : Type := (List (List Int)) × (List Int) × Int × (List Int) × Unit × Unit × Unit × Unit × Unit × Unit
abbrev C51 : List K := [kV (eT (eT eI)), kV (eL eI), kV eI, kO (eL eI), kO (eL eI), kN, kN, kN, kN]
abbrev H51 : Type := (List (List Int)) × (List Int) × Int × (List Int) × (List Int) × Unit × Unit × Unit × Unit × Unit
abbrev C52 : List K := [kV (eT (eT eI)), kV (eL eI), kV eI, kO (eL eI), kO (eL eI), kJ, kJ, kJ, kJ]
abbrev C53 : List K := [kV (eT (eT eI)), kV (eL eI), kV eI, kO (eL eI), kO (eL eI), kV eI, kJ, kJ, kJ]
abbrev H52 : Type := (List (List Int)) × (List Int) × Int × (List Int) × (List Int) × Unit × Unit × Unit × Unit × Unit
abbrev H53 : Type := (List (List Int)) × (List Int) × Int × (List Int) × (List Int) × Int × Unit × Unit × Unit × Unit
abbrev C54 : List K := [kV (eT (eT eI)), kV (eL eI), kV eI, kO (eL eI), kO (eL eI), kV eI, kJ, kV eI, kJ]
abbrev H54 : Type := (List (List Int)) × (List Int) × Int × (List Int) × (List Int) × Int × Unit × Int × Unit × Unit
abbrev C55 : List K := [kV (eT (eT eI)), kV (eL eI), kV eI, kO (eL eI), kO (eL eI), kV eI, kJ, kV eI, kV eI]
abbrev H55 : Type := (List (List Int)) × (List Int) × Int × (List Int) × (List Int) × Int × Unit × Int × Int × Unit
abbrev C56 : List K := [kV (eT (eT eI)), kV (eL eI), kV eI, kO (eL eI), kO (eL eI), kV eI, kV eI, kV eI, kV eI]
abbrev H56 : Type := (List (List Int)) × (List Int) × Int × (List Int) × (List Int) × Int × Int × Int × Int × Unit
abbrev C57 : List K := [kV (eT (eT eI)), kV (eL eI), kV eI]
abbrev H57 : Type := (List (List Int)) × (List Int) × Int × Unit
abbrev S_hours_begun := {g : (List (List Int)) → (List Int) → Int → Option (List Int) // ∀ n, FS (callF tab (n + 1)) f_hours_begun C57 (eL eI) (fun a : H57 => g a.1 a.2.1 a.2.2.1)}
def p_hours_begun : {g : H57 → Option (List Int) // ∀ n, FS (callF tab (n + 1)) f_hours_begun C57 (eL eI) g} := ⟨_, fun n => fs_of (fn := ⟨3, 9, [], 1, b_hours_begun⟩) (ps := C57) (Γ := C49) (st := fun a : H57 => ((a.1, a.2.1, a.2.2.1, (), (), (), (), (), (), ()) : H49)) rfl rfl rfl rfl rfl (start_rel (fn := ⟨3, 9, [], 1, b_hours_begun⟩) (ps := C57) rfl rfl rfl)
  (ts_asgO (Γ1 := C49) (Γ2 := C50) (up := (fun x (γ : H49) => ((γ.1, γ.2.1, γ.2.2.1, x, γ.2.2.2.2) : H50))) (tm_keep (te_lrep rfl (tl_cons (te_con eI 0 rfl) tl_nil) (te_bi1 (bt_len (e := (eT eI))) (te_var (Γ := C49) (e := (eT (eT eI))) (g := (fun γ : H49 => γ.1)) ⟨rg 0 rfl⟩)))) mt_L (up_O 3 (eL eI))
  (ts_asgO (Γ1 := C50) (Γ2 := C51) (up := (fun x (γ : H50) => ((γ.1, γ.2.1, γ.2.2.1, γ.2.2.2.1, x, γ.2.2.2.2.2) : H51))) (tm_keep (te_lrep rfl (tl_cons (te_con eI 0 rfl) tl_nil) (te_var (Γ := C50) (e := eI) (g := (fun γ : H50 => γ.2.2.1)) ⟨rg 2 rfl⟩))) mt_L (up_O 4 (eL eI))
  (ts_for (Γ1 := C51) (Γl := C52) (Γb := C53) (wk := (fun γ : H51 => ((γ.1, γ.2.1, γ.2.2.1, γ.2.2.2.1, γ.2.2.2.2.1, (), (), (), (), γ.2.2.2.2.2.2.2.2.2) : H52))) (ti_keep (Γ := C51) (Γ' := C51) (wk := fun γ : H51 => γ) (it_L (e := eI)) fz_nil (te_var (Γ := C51) (e := (eL eI)) (g := (fun γ : H51 => γ.2.1)) ⟨rg 1 rfl⟩)) (wn_s (wn_s (wn_s (wn_s (wn_s (wn_jN (wn_jN (wn_jN (wn_jN wn_id))))))))) (tg_nm (Γ := C52) (Γ' := C53) (up := (fun x (γ : H52) => ((γ.1, γ.2.1, γ.2.2.1, γ.2.2.2.1, γ.2.2.2.2.1, x, γ.2.2.2.2.2.2) : H53))) (up_V 5 eI))
  (ts_asgT (Γ1 := C53) (Γ2 := C55) (tm_keep (te_idx (i_T (e := (eT eI))) (te_var (Γ := C53) (e := (eT (eT eI))) (g := (fun γ : H53 => γ.1)) ⟨rg 0 rfl⟩) (te_var (Γ := C53) (e := eI) (g := (fun γ : H53 => γ.2.2.2.2.2.1)) ⟨rg 5 rfl⟩))) (tg_T (tgs_cons (tg_nm (Γ := C53) (Γ' := C54) (up := (fun x (γ : H53) => ((γ.1, γ.2.1, γ.2.2.1, γ.2.2.2.1, γ.2.2.2.2.1, γ.2.2.2.2.2.1, γ.2.2.2.2.2.2.1, x, γ.2.2.2.2.2.2.2.2) : H54))) (up_V 7 eI)) (tgs_cons (tg_nm (Γ := C54) (Γ' := C55) (up := (fun x (γ : H54) => ((γ.1, γ.2.1, γ.2.2.1, γ.2.2.2.1, γ.2.2.2.2.1, γ.2.2.2.2.2.1, γ.2.2.2.2.2.2.1, γ.2.2.2.2.2.2.2.1, x, γ.2.2.2.2.2.2.2.2.2) : H55))) (up_V 8 eI)) (tgs_nil (e := eI) (Γ := C55)))))
  (ts_asgV (Γ1 := C55) (Γ2 := C56) (up := (fun x (γ : H55) => ((γ.1, γ.2.1, γ.2.2.1, γ.2.2.2.1, γ.2.2.2.2.1, γ.2.2.2.2.2.1, x, γ.2.2.2.2.2.2.2) : H56))) (tm_look (lk_imm im_I _) (te_idxL (te_varO (Γ := C55) (e := (eL eI)) (g := (fun γ : H55 => γ.2.2.2.2.1)) ⟨rg 4 rfl⟩) (te_bi1 bl_minI (te_varO (Γ := C55) (e := (eL eI)) (g := (fun γ : H55 => γ.2.2.2.2.1)) ⟨rg 4 rfl⟩)))) (nk0 _) (up_V 6 eI)
  (ts_set (Γ1 := C56) (s_L (e := eI)) (tm_keep (te_bi2 b_max2 (te_var (Γ := C56) (e := eI) (g := (fun γ : H56 => γ.2.2.2.2.2.2.2.1)) ⟨rg 7 rfl⟩) (te_sidx (i_L (e := eI)) (la_O (Γ := C56) (e := (eL eI)) (g := (fun γ : H56 => γ.2.2.2.2.1)) ⟨rg 4 rfl⟩) (te_var (Γ := C56) (e := eI) (g := (fun γ : H56 => γ.2.2.2.2.2.2.1)) ⟨rg 6 rfl⟩)))) (um_O (Γ := C56) (e := (eL eI)) (g := (fun γ : H56 => γ.2.2.2.1)) (up := (fun x (γ : H56) => ((γ.1, γ.2.1, γ.2.2.1, x, γ.2.2.2.2) : H56))) ⟨rg 3 rfl⟩ (up_O 3 (eL eI))) (te_var (Γ := C56) (e := eI) (g := (fun γ : H56 => γ.2.2.2.2.2.1)) ⟨rg 5 rfl⟩)
  (ts_set (Γ1 := C56) (s_L (e := eI)) (tm_keep (te_bin o_add (te_sidx (i_L (e := eI)) (la_O (Γ := C56) (e := (eL eI)) (g := (fun γ : H56 => γ.2.2.2.1)) ⟨rg 3 rfl⟩) (te_var (Γ := C56) (e := eI) (g := (fun γ : H56 => γ.2.2.2.2.2.1)) ⟨rg 5 rfl⟩)) (te_var (Γ := C56) (e := eI) (g := (fun γ : H56 => γ.2.2.2.2.2.2.2.2.1)) ⟨rg 8 rfl⟩))) (um_O (Γ := C56) (e := (eL eI)) (g := (fun γ : H56 => γ.2.2.2.2.1)) (up := (fun x (γ : H56) => ((γ.1, γ.2.1, γ.2.2.1, γ.2.2.2.1, x, γ.2.2.2.2.2) : H56))) ⟨rg 4 rfl⟩ (up_O 4 (eL eI))) (te_var (Γ := C56) (e := eI) (g := (fun γ : H56 => γ.2.2.2.2.2.2.1)) ⟨rg 6 rfl⟩)
  (ts_nil (en_lnx (Γ := C56) (Γl := C52) (wk := (fun γ : H56 => ((γ.1, γ.2.1, γ.2.2.1, γ.2.2.2.1, γ.2.2.2.2.1, (), (), (), (), γ.2.2.2.2.2.2.2.2.2) : H52))) (wn_s (wn_s (wn_s (wn_s (wn_s (wn_jV (wn_jV (wn_jV (wn_jV wn_id)))))))))))))))
  (ts_retO (Γ := C52) (e := (eL eI)) (g := (fun γ : H52 => γ.2.2.2.1)) ⟨rg 3 rfl⟩ (ri_fn rfl (fun _ => rfl))))))⟩
def s_hours_begun : S_hours_begun := ⟨fun a0 a1 a2 => (p_hours_begun).1 (a0, a1, a2, ()), fun n => (p_hours_begun).2 n⟩
def z_hours_begun : S_hours_begun := s_hours_begun
abbrev C58 : List K := [kV (eT (eT eI)), kN, kN, kN]
abbrev H58 : Type := (List (List Int)) × Unit × Unit × Unit × Unit
abbrev C59 : List K := [kV (eT (eT eI)), kN, kV eI, kN]
abbrev H59 : Type := (List (List Int)) × Unit × Int × Unit × Unit
abbrev C60 : List K := [kV (eT (eT eI)), kV (eL (eT eI)), kN, kN]
abbrev H60 : Type := (List (List Int)) × (List (List Int)) × Unit × Unit × Unit
abbrev C61 : List K := [kV (eT (eT eI)), kV (eL (eT eI)), kN, kV eI]
abbrev H61 : Type := (List (List Int)) × (List (List Int)) × Unit × Int × Unit
abbrev C62 : List K := [kV (eT (eT eI)), kV (eL (eT eI)), kV eI, kV eI]
abbrev H62 : Type := (List (List Int)) × (List (List Int)) × Int × Int × Unit
abbrev S_turn_of := {g : (List (List Int)) → Option (List Int) // ∀ n, FS (callF tab (n + 1)) f_turn_of C48 (eL eI) (fun a : H48 => g a.1)}
def p_turn_of : {g : H48 → Option (List Int) // ∀ n, FS (callF tab (n + 1)) f_turn_of C48 (eL eI) g} := ⟨_, fun n => fs_of (fn := ⟨1, 4, [], 1, b_turn_of⟩) (ps := C48) (Γ := C58) (st := fun a : H48 => ((a.1, (), (), (), ()) : H58)) rfl rfl rfl rfl rfl (start_rel (fn := ⟨1, 4, [], 1, b_turn_of⟩) (ps := C48) rfl rfl rfl)
  (ts_asgV (Γ1 := C58) (Γ2 := C60) (up := (fun x (γ : H58) => ((γ.1, x, γ.2.2) : H60))) (tm_keep (te_bi1 (bl_sort (or_T or_I) (ln_L ln_I) ok_T (Nat.le_of_ble_eq_true rfl)) (te_comp (Γ := C58) (Γw := C58) (Γ' := C59) (wk := (fun γ : H58 => ((γ.1, γ.2.1, (), γ.2.2.2) : H58))) (it_L (e := eI)) (te_rng (te_con eI 0 rfl) (te_bi1 (bt_len (e := (eT eI))) (te_var (Γ := C58) (e := (eT (eT eI))) (g := (fun γ : H58 => γ.1)) ⟨rg 0 rfl⟩))) rfl (wk_cons (i := 2) wk_nil) (tg_nm (Γ := C58) (Γ' := C59) (up := (fun x (γ : H58) => ((γ.1, γ.2.1, x, γ.2.2.2) : H59))) (up_V 2 eI)) tc_none (te_tup rfl (tl_cons (te_idx (i_T (e := eI)) (te_idx (i_T (e := (eT eI))) (te_var (Γ := C59) (e := (eT (eT eI))) (g := (fun γ : H59 => γ.1)) ⟨rg 0 rfl⟩) (te_var (Γ := C59) (e := eI) (g := (fun γ : H59 => γ.2.2.1)) ⟨rg 2 rfl⟩)) (te_con eI 0 rfl)) (tl_cons (te_var (Γ := C59) (e := eI) (g := (fun γ : H59 => γ.2.2.1)) ⟨rg 2 rfl⟩) tl_nil)))))) (nk0 _) (up_V 1 (eL (eT eI)))
  (ts_ret (tm_keep (te_comp (Γ := C60) (Γw := C60) (Γ' := C62) (wk := (fun γ : H60 => ((γ.1, γ.2.1, (), (), γ.2.2.2.2) : H60))) (it_L (e := (eT eI))) (te_var (Γ := C60) (e := (eL (eT eI))) (g := (fun γ : H60 => γ.2.1)) ⟨rg 1 rfl⟩) rfl (wk_cons (i := 3) (wk_cons (i := 2) wk_nil)) (tg_T (tgs_cons (tg_nm (Γ := C60) (Γ' := C61) (up := (fun x (γ : H60) => ((γ.1, γ.2.1, γ.2.2.1, x, γ.2.2.2.2) : H61))) (up_V 3 eI)) (tgs_cons (tg_nm (Γ := C61) (Γ' := C62) (up := (fun x (γ : H61) => ((γ.1, γ.2.1, x, γ.2.2.2) : H62))) (up_V 2 eI)) (tgs_nil (e := eI) (Γ := C62))))) tc_none (te_var (Γ := C62) (e := eI) (g := (fun γ : H62 => γ.2.2.1)) ⟨rg 2 rfl⟩))) (ri_fn rfl (fun _ => rfl))))⟩
def s_turn_of : S_turn_of := ⟨fun a0 => (p_turn_of).1 (a0, ()), fun n => (p_turn_of).2 n⟩
def z_turn_of : S_turn_of := s_turn_of
abbrev S_in_turn := {g : (List (List Int)) → Int → Option (List Int) // ∀ n, FS (callF tab (n + 6)) f_in_turn C37 (eT eI) (fun a : H37 => g a.1 a.2.1)}
def p_in_turn (s_require_quay : S_require_quay) (s_hours_begun : S_hours_begun) (s_turn_of : S_turn_of) : {g : H37 → Option (List Int) // ∀ n, FS (callF tab (n + 6)) f_in_turn C37 (eT eI) g} := ⟨_, fun n => fs_of (fn := ⟨2, 2, [], 0, b_in_turn⟩) (ps := C37) (Γ := C37) (st := fun a : H37 => ((a.1, a.2.1, ()) : H37)) rfl rfl rfl rfl rfl (start_rel (fn := ⟨2, 2, [], 0, b_in_turn⟩) (ps := C37) rfl rfl rfl)
  (ts_exp (Γ1 := C37) (tm_keep (te_call (fn := ⟨2, 2, [], 1, b_require_quay⟩) rfl rfl (s_require_quay.2 _) (ta_cons (te_var (Γ := C37) (e := (eT (eT eI))) (g := (fun γ : H37 => γ.1)) ⟨rg 0 rfl⟩) (ta_cons (te_var (Γ := C37) (e := eI) (g := (fun γ : H37 => γ.2.1)) ⟨rg 1 rfl⟩) ta_nil))))
  (ts_ret (tm_keep (te_bi1 (bl_tup (e := eI)) (te_call (fn := ⟨3, 9, [], 1, b_hours_begun⟩) rfl rfl (s_hours_begun.2 _) (ta_cons (te_var (Γ := C37) (e := (eT (eT eI))) (g := (fun γ : H37 => γ.1)) ⟨rg 0 rfl⟩) (ta_cons (te_call (fn := ⟨1, 4, [], 1, b_turn_of⟩) rfl rfl (s_turn_of.2 _) (ta_cons (te_var (Γ := C37) (e := (eT (eT eI))) (g := (fun γ : H37 => γ.1)) ⟨rg 0 rfl⟩) ta_nil)) (ta_cons (te_var (Γ := C37) (e := eI) (g := (fun γ : H37 => γ.2.1)) ⟨rg 1 rfl⟩) ta_nil)))))) (ri_fn rfl (fun _ => rfl))))⟩
def s_in_turn (s_require_quay : S_require_quay) (s_hours_begun : S_hours_begun) (s_turn_of : S_turn_of) : S_in_turn := ⟨fun a0 a1 => (p_in_turn s_require_quay s_hours_begun s_turn_of).1 (a0, a1, ()), fun n => (p_in_turn s_require_quay s_hours_begun s_turn_of).2 n⟩
def z_in_turn : S_in_turn := s_in_turn z_require_quay z_hours_begun z_turn_of
abbrev C63 : List K := [kV (eT (eT eI)), kV (eL eI), kN, kN]
abbrev H63 : Type := (List (List Int)) × (List Int) × Unit × Unit × Unit
abbrev C64 : List K := [kV (eT (eT eI)), kV (eL eI), kV eI, kN]
abbrev H64 : Type := (List (List Int)) × (List Int) × Int × Unit × Unit
abbrev C65 : List K := [kV (eT (eT eI)), kV (eL eI), kV eI, kV (eT eI)]
abbrev H65 : Type := (List (List Int)) × (List Int) × Int × (List Int) × Unit
abbrev C66 : List K := [kV (eT (eT eI)), kV (eL eI)]
abbrev H66 : Type := (List (List Int)) × (List Int) × Unit
abbrev S_hours_waited := {g : (List (List Int)) → (List Int) → Option Int // ∀ n, FS (callF tab (n + 1)) f_hours_waited C66 eI (fun a : H66 => g a.1 a.2.1)}
def p_hours_waited : {g : H66 → Option Int // ∀ n, FS (callF tab (n + 1)) f_hours_waited C66 eI g} := ⟨_, fun n => fs_of (fn := ⟨2, 4, [], 0, b_hours_waited⟩) (ps := C66) (Γ := C63) (st := fun a : H66 => ((a.1, a.2.1, (), (), ()) : H63)) rfl rfl rfl rfl rfl (start_rel (fn := ⟨2, 4, [], 0, b_hours_waited⟩) (ps := C66) rfl rfl rfl)
  (ts_ret (tm_keep (te_bi1 bl_sum (te_comp (Γ := C63) (Γw := C63) (Γ' := C65) (wk := (fun γ : H63 => ((γ.1, γ.2.1, (), (), γ.2.2.2.2) : H63))) (it_L (e := (eP2 eI (eT eI)))) (te_zip (zip_N (e := eI) (e2 := (eT eI))) (te_var (Γ := C63) (e := (eL eI)) (g := (fun γ : H63 => γ.2.1)) ⟨rg 1 rfl⟩) (te_var (Γ := C63) (e := (eT (eT eI))) (g := (fun γ : H63 => γ.1)) ⟨rg 0 rfl⟩)) rfl (wk_cons (i := 2) (wk_cons (i := 3) wk_nil)) (tg_p2 (tg_nm (Γ := C63) (Γ' := C64) (up := (fun x (γ : H63) => ((γ.1, γ.2.1, x, γ.2.2.2) : H64))) (up_V 2 eI)) (tg_nm (Γ := C64) (Γ' := C65) (up := (fun x (γ : H64) => ((γ.1, γ.2.1, γ.2.2.1, x, γ.2.2.2.2) : H65))) (up_V 3 (eT eI)))) tc_none (te_bin o_sub (te_var (Γ := C65) (e := eI) (g := (fun γ : H65 => γ.2.2.1)) ⟨rg 2 rfl⟩) (te_idx (i_T (e := eI)) (te_var (Γ := C65) (e := (eT eI)) (g := (fun γ : H65 => γ.2.2.2.1)) ⟨rg 3 rfl⟩) (te_con eI 0 rfl)))))) (ri_fn rfl (fun _ => rfl)))⟩
def s_hours_waited : S_hours_waited := ⟨fun a0 a1 => (p_hours_waited).1 (a0, a1, ()), fun n => (p_hours_waited).2 n⟩
def z_hours_waited : S_hours_waited := s_hours_waited
abbrev S_waiting := {g : (List (List Int)) → Int → Option Int // ∀ n, FS (callF tab (n + 6)) f_waiting C37 eI (fun a : H37 => g a.1 a.2.1)}
def p_waiting (s_require_quay : S_require_quay) (s_hours_waited : S_hours_waited) (s_hours_begun : S_hours_begun) (s_turn_of : S_turn_of) : {g : H37 → Option Int // ∀ n, FS (callF tab (n + 6)) f_waiting C37 eI g} := ⟨_, fun n => fs_of (fn := ⟨2, 2, [], 0, b_waiting⟩) (ps := C37) (Γ := C37) (st := fun a : H37 => ((a.1, a.2.1, ()) : H37)) rfl rfl rfl rfl rfl (start_rel (fn := ⟨2, 2, [], 0, b_waiting⟩) (ps := C37) rfl rfl rfl)
  (ts_exp (Γ1 := C37) (tm_keep (te_call (fn := ⟨2, 2, [], 1, b_require_quay⟩) rfl rfl (s_require_quay.2 _) (ta_cons (te_var (Γ := C37) (e := (eT (eT eI))) (g := (fun γ : H37 => γ.1)) ⟨rg 0 rfl⟩) (ta_cons (te_var (Γ := C37) (e := eI) (g := (fun γ : H37 => γ.2.1)) ⟨rg 1 rfl⟩) ta_nil))))
  (ts_ret (tm_keep (te_call (fn := ⟨2, 4, [], 0, b_hours_waited⟩) rfl rfl (s_hours_waited.2 _) (ta_cons (te_var (Γ := C37) (e := (eT (eT eI))) (g := (fun γ : H37 => γ.1)) ⟨rg 0 rfl⟩) (ta_cons (te_call (fn := ⟨3, 9, [], 1, b_hours_begun⟩) rfl rfl (s_hours_begun.2 _) (ta_cons (te_var (Γ := C37) (e := (eT (eT eI))) (g := (fun γ : H37 => γ.1)) ⟨rg 0 rfl⟩) (ta_cons (te_call (fn := ⟨1, 4, [], 1, b_turn_of⟩) rfl rfl (s_turn_of.2 _) (ta_cons (te_var (Γ := C37) (e := (eT (eT eI))) (g := (fun γ : H37 => γ.1)) ⟨rg 0 rfl⟩) ta_nil)) (ta_cons (te_var (Γ := C37) (e := eI) (g := (fun γ : H37 => γ.2.1)) ⟨rg 1 rfl⟩) ta_nil)))) ta_nil)))) (ri_fn rfl (fun _ => rfl))))⟩
def s_waiting (s_require_quay : S_require_quay) (s_hours_waited : S_hours_waited) (s_hours_begun : S_hours_begun) (s_turn_of : S_turn_of) : S_waiting := ⟨fun a0 a1 => (p_waiting s_require_quay s_hours_waited s_hours_begun s_turn_of).1 (a0, a1, ()), fun n => (p_waiting s_require_quay s_hours_waited s_hours_begun s_turn_of).2 n⟩
def z_waiting : S_waiting := s_waiting z_require_quay z_hours_waited z_hours_begun z_turn_of
abbrev C67 : List K := [kV (eT (eT eI)), kV eI, kN, kN, kN]
abbrev H67 : Type := (List (List Int)) × Int × Unit × Unit × Unit × Unit
abbrev C68 : List K := [kV (eT (eT eI)), kV eI, kV (eL eI), kN, kN]
abbrev H68 : Type := (List (List Int)) × Int × (List Int) × Unit × Unit × Unit
abbrev C69 : List K := [kV (eT (eT eI)), kV eI, kV (eL eI), kV eI, kN]
abbrev H69 : Type := (List (List Int)) × Int × (List Int) × Int × Unit × Unit
abbrev C70 : List K := [kV (eT (eT eI)), kV eI, kV (eL eI), kV eI, kV (eT eI)]
abbrev H70 : Type := (List (List Int)) × Int × (List Int) × Int × (List Int) × Unit
abbrev S_last_free := {g : (List (List Int)) → Int → Option Int // ∀ n, FS (callF tab (n + 6)) f_last_free C37 eI (fun a : H37 => g a.1 a.2.1)}
def p_last_free (s_require_quay : S_require_quay) (s_hours_begun : S_hours_begun) (s_turn_of : S_turn_of) : {g : H37 → Option Int // ∀ n, FS (callF tab (n + 6)) f_last_free C37 eI g} := ⟨_, fun n => fs_of (fn := ⟨2, 5, [], 0, b_last_free⟩) (ps := C37) (Γ := C67) (st := fun a : H37 => ((a.1, a.2.1, (), (), (), ()) : H67)) rfl rfl rfl rfl rfl (start_rel (fn := ⟨2, 5, [], 0, b_last_free⟩) (ps := C37) rfl rfl rfl)
  (ts_exp (Γ1 := C67) (tm_keep (te_call (fn := ⟨2, 2, [], 1, b_require_quay⟩) rfl rfl (s_require_quay.2 _) (ta_cons (te_var (Γ := C67) (e := (eT (eT eI))) (g := (fun γ : H67 => γ.1)) ⟨rg 0 rfl⟩) (ta_cons (te_var (Γ := C67) (e := eI) (g := (fun γ : H67 => γ.2.1)) ⟨rg 1 rfl⟩) ta_nil))))
  (ts_asgV (Γ1 := C67) (Γ2 := C68) (up := (fun x (γ : H67) => ((γ.1, γ.2.1, x, γ.2.2.2) : H68))) (tm_keep (te_call (fn := ⟨3, 9, [], 1, b_hours_begun⟩) rfl rfl (s_hours_begun.2 _) (ta_cons (te_var (Γ := C67) (e := (eT (eT eI))) (g := (fun γ : H67 => γ.1)) ⟨rg 0 rfl⟩) (ta_cons (te_call (fn := ⟨1, 4, [], 1, b_turn_of⟩) rfl rfl (s_turn_of.2 _) (ta_cons (te_var (Γ := C67) (e := (eT (eT eI))) (g := (fun γ : H67 => γ.1)) ⟨rg 0 rfl⟩) ta_nil)) (ta_cons (te_var (Γ := C67) (e := eI) (g := (fun γ : H67 => γ.2.1)) ⟨rg 1 rfl⟩) ta_nil))))) (nk0 _) (up_V 2 (eL eI))
  (ts_ret (tm_keep (te_maxdI (te_comp (Γ := C68) (Γw := C68) (Γ' := C70) (wk := (fun γ : H68 => ((γ.1, γ.2.1, γ.2.2.1, (), (), γ.2.2.2.2.2) : H68))) (it_L (e := (eP2 eI (eT eI)))) (te_zip (zip_N (e := eI) (e2 := (eT eI))) (te_var (Γ := C68) (e := (eL eI)) (g := (fun γ : H68 => γ.2.2.1)) ⟨rg 2 rfl⟩) (te_var (Γ := C68) (e := (eT (eT eI))) (g := (fun γ : H68 => γ.1)) ⟨rg 0 rfl⟩)) rfl (wk_cons (i := 3) (wk_cons (i := 4) wk_nil)) (tg_p2 (tg_nm (Γ := C68) (Γ' := C69) (up := (fun x (γ : H68) => ((γ.1, γ.2.1, γ.2.2.1, x, γ.2.2.2.2) : H69))) (up_V 3 eI)) (tg_nm (Γ := C69) (Γ' := C70) (up := (fun x (γ : H69) => ((γ.1, γ.2.1, γ.2.2.1, γ.2.2.2.1, x, γ.2.2.2.2.2) : H70))) (up_V 4 (eT eI)))) tc_none (te_bin o_add (te_var (Γ := C70) (e := eI) (g := (fun γ : H70 => γ.2.2.2.1)) ⟨rg 3 rfl⟩) (te_idx (i_T (e := eI)) (te_var (Γ := C70) (e := (eT eI)) (g := (fun γ : H70 => γ.2.2.2.2.1)) ⟨rg 4 rfl⟩) (te_con eI 1 rfl)))))) (ri_fn rfl (fun _ => rfl)))))⟩
def s_last_free (s_require_quay : S_require_quay) (s_hours_begun : S_hours_begun) (s_turn_of : S_turn_of) : S_last_free := ⟨fun a0 a1 => (p_last_free s_require_quay s_hours_begun s_turn_of).1 (a0, a1, ()), fun n => (p_last_free s_require_quay s_hours_begun s_turn_of).2 n⟩
def z_last_free : S_last_free := s_last_free z_require_quay z_hours_begun z_turn_of
abbrev C71 : List K := [kV (eL eI), kV (eL eI), kO (eL eI), kV eI, kV eI, kV eI, kV eI, kV eI, kV (eL eI), kV (eT (eT eI)), kV eI, kJ, kJ, kO (eL (eO eI)), kJ, kJ, kJ, kN, kJ, kJ, kJ, kJ, kN]
abbrev H71 : Type := (List Int) × (List Int) × (List Int) × Int × Int × Int × Int × Int × (List Int) × (List (List Int)) × Int × Unit × Unit × (List (Option Int)) × Unit × Unit × Unit × Unit × Unit × Unit × Unit × Unit × Unit × Unit
abbrev C72 : List K := [kV (eL eI), kV (eL eI), kO (eL eI), kV eI, kV eI, kV eI, kV eI, kV eI, kV (eL eI), kV (eT (eT eI)), kV eI, kJ, kJ, kO (eL (eO eI)), kJ, kJ, kJ, kV eI, kJ, kJ, kJ, kJ, kN]
abbrev H72 : Type := (List Int) × (List Int) × (List Int) × Int × Int × Int × Int × Int × (List Int) × (List (List Int)) × Int × Unit × Unit × (List (Option Int)) × Unit × Unit × Unit × Int × Unit × Unit × Unit × Unit × Unit × Unit
abbrev S_law_L4 := {w : H26 → Option (Fl H25 (Fl H20 (Fl H19 (Fl H18 Bool)))) // ∀ n, TS tab (callF tab (n + 6)) C26 b_law_L4 w (PG C25 (PG C20 (PG C19 (PG C18 (PF ⟨1, 23, [], 1, b_law⟩ eB)))))}
def s_law_L4 (s_law_L5 : S_law_L5) (s_in_turn : S_in_turn) (s_waiting : S_waiting) (s_last_free : S_last_free) : S_law_L4 := ⟨_, fun n => (ts_asgO (Γ1 := C26) (Γ2 := C27) (up := (fun x (γ : H26) => ((γ.1, γ.2.1, γ.2.2.1, γ.2.2.2.1, γ.2.2.2.2.1, γ.2.2.2.2.2.1, γ.2.2.2.2.2.2.1, γ.2.2.2.2.2.2.2.1, γ.2.2.2.2.2.2.2.2.1, γ.2.2.2.2.2.2.2.2.2.1, γ.2.2.2.2.2.2.2.2.2.2.1, γ.2.2.2.2.2.2.2.2.2.2.2.1, γ.2.2.2.2.2.2.2.2.2.2.2.2.1, x, γ.2.2.2.2.2.2.2.2.2.2.2.2.2.2) : H27))) (tm_keep (te_lrep rfl (tl_cons (te_con (eO eI) none rfl) tl_nil) (te_con eI 3 rfl))) mt_L (up_O 13 (eL (eO eI)))
  (ts_for (Γ1 := C27) (Γl := C27) (Γb := C28) (wk := (fun γ : H27 => γ)) (ti_keep (Γ := C27) (Γ' := C27) (wk := fun γ : H27 => γ) (it_L (e := eI)) fz_nil (te_rng (te_con eI 0 rfl) (te_con eI 30 rfl))) wn_id (tg_nm (Γ := C27) (Γ' := C28) (up := (fun x (γ : H27) => ((γ.1, γ.2.1, γ.2.2.1, γ.2.2.2.1, γ.2.2.2.2.1, γ.2.2.2.2.2.1, γ.2.2.2.2.2.2.1, γ.2.2.2.2.2.2.2.1, γ.2.2.2.2.2.2.2.2.1, γ.2.2.2.2.2.2.2.2.2.1, γ.2.2.2.2.2.2.2.2.2.2.1, γ.2.2.2.2.2.2.2.2.2.2.2.1, γ.2.2.2.2.2.2.2.2.2.2.2.2.1, γ.2.2.2.2.2.2.2.2.2.2.2.2.2.1, x, γ.2.2.2.2.2.2.2.2.2.2.2.2.2.2.2) : H28))) (up_V 14 eI))
  (s_law_L5.2 _)
  (ts_if (Γ1 := C27) (tt_look (te_or (te_cmp (r_neN (nc_T (nc_O nc_I n_I (Nat.le_of_ble_eq_true rfl))) (Nat.le_of_ble_eq_true rfl)) (te_co (e2 := (eT (eO eI))) (List.map (fun x => some ((fun x => x) x))) (co_T (fun x => ((fun _ => rfl)) x)) (te_call (fn := ⟨2, 2, [], 0, b_in_turn⟩) rfl rfl (s_in_turn.2 _) (ta_cons (te_var (Γ := C27) (e := (eT (eT eI))) (g := (fun γ : H27 => γ.2.2.2.2.2.2.2.2.2.1)) ⟨rg 9 rfl⟩) (ta_cons (te_var (Γ := C27) (e := eI) (g := (fun γ : H27 => γ.2.2.2.2.2.2.2.2.2.2.1)) ⟨rg 10 rfl⟩) ta_nil)))) (te_bi1 (bl_tup (e := (eO eI))) (te_varO (Γ := C27) (e := (eL (eO eI))) (g := (fun γ : H27 => γ.2.2.2.2.2.2.2.2.2.2.2.2.2.1)) ⟨rg 13 rfl⟩))) (te_cmp r_ne (te_call (fn := ⟨2, 2, [], 0, b_waiting⟩) rfl rfl (s_waiting.2 _) (ta_cons (te_var (Γ := C27) (e := (eT (eT eI))) (g := (fun γ : H27 => γ.2.2.2.2.2.2.2.2.2.1)) ⟨rg 9 rfl⟩) (ta_cons (te_var (Γ := C27) (e := eI) (g := (fun γ : H27 => γ.2.2.2.2.2.2.2.2.2.2.1)) ⟨rg 10 rfl⟩) ta_nil))) (te_bin o_sub (te_bin o_sub (te_bin o_sub (te_bi1 bl_sum (te_na (e2 := (eL eI)) allO na_LO (te_varO (Γ := C27) (e := (eL (eO eI))) (g := (fun γ : H27 => γ.2.2.2.2.2.2.2.2.2.2.2.2.2.1)) ⟨rg 13 rfl⟩))) (te_var (Γ := C27) (e := eI) (g := (fun γ : H27 => γ.2.2.2.2.2.1)) ⟨rg 5 rfl⟩)) (te_var (Γ := C27) (e := eI) (g := (fun γ : H27 => γ.2.2.2.2.2.2.1)) ⟨rg 6 rfl⟩)) (te_var (Γ := C27) (e := eI) (g := (fun γ : H27 => γ.2.2.2.2.2.2.2.1)) ⟨rg 7 rfl⟩)))))
  (ts_ret (tm_keep (te_con eB false rfl)) (ri_loop (ri_loop (ri_loop (ri_loop (ri_fn rfl (fr_imm im_B _ _)))))))
  (ts_if (Γ1 := C27) (tt_keep (te_cmp r_ne (te_call (fn := ⟨2, 5, [], 0, b_last_free⟩) rfl rfl (s_last_free.2 _) (ta_cons (te_var (Γ := C27) (e := (eT (eT eI))) (g := (fun γ : H27 => γ.2.2.2.2.2.2.2.2.2.1)) ⟨rg 9 rfl⟩) (ta_cons (te_var (Γ := C27) (e := eI) (g := (fun γ : H27 => γ.2.2.2.2.2.2.2.2.2.2.1)) ⟨rg 10 rfl⟩) ta_nil))) (te_bi1 bl_maxI (te_comp (Γ := C27) (Γw := C71) (Γ' := C72) (wk := (fun γ : H27 => ((γ.1, γ.2.1, γ.2.2.1, γ.2.2.2.1, γ.2.2.2.2.1, γ.2.2.2.2.2.1, γ.2.2.2.2.2.2.1, γ.2.2.2.2.2.2.2.1, γ.2.2.2.2.2.2.2.2.1, γ.2.2.2.2.2.2.2.2.2.1, γ.2.2.2.2.2.2.2.2.2.2.1, γ.2.2.2.2.2.2.2.2.2.2.2.1, γ.2.2.2.2.2.2.2.2.2.2.2.2.1, γ.2.2.2.2.2.2.2.2.2.2.2.2.2.1, γ.2.2.2.2.2.2.2.2.2.2.2.2.2.2.1, γ.2.2.2.2.2.2.2.2.2.2.2.2.2.2.2.1, γ.2.2.2.2.2.2.2.2.2.2.2.2.2.2.2.2.1, (), γ.2.2.2.2.2.2.2.2.2.2.2.2.2.2.2.2.2.2) : H71))) (it_L (e := eI)) (te_rng (te_con eI 0 rfl) (te_con eI 3 rfl)) rfl (wk_cons (i := 17) wk_nil) (tg_nm (Γ := C71) (Γ' := C72) (up := (fun x (γ : H71) => ((γ.1, γ.2.1, γ.2.2.1, γ.2.2.2.1, γ.2.2.2.2.1, γ.2.2.2.2.2.1, γ.2.2.2.2.2.2.1, γ.2.2.2.2.2.2.2.1, γ.2.2.2.2.2.2.2.2.1, γ.2.2.2.2.2.2.2.2.2.1, γ.2.2.2.2.2.2.2.2.2.2.1, γ.2.2.2.2.2.2.2.2.2.2.2.1, γ.2.2.2.2.2.2.2.2.2.2.2.2.1, γ.2.2.2.2.2.2.2.2.2.2.2.2.2.1, γ.2.2.2.2.2.2.2.2.2.2.2.2.2.2.1, γ.2.2.2.2.2.2.2.2.2.2.2.2.2.2.2.1, γ.2.2.2.2.2.2.2.2.2.2.2.2.2.2.2.2.1, x, γ.2.2.2.2.2.2.2.2.2.2.2.2.2.2.2.2.2.2) : H72))) (up_V 17 eI)) tc_none (te_bin o_add (te_na (fun x => x) na_O (te_sidx (i_L (e := (eO eI))) (la_O (Γ := C72) (e := (eL (eO eI))) (g := (fun γ : H72 => γ.2.2.2.2.2.2.2.2.2.2.2.2.2.1)) ⟨rg 13 rfl⟩) (te_var (Γ := C72) (e := eI) (g := (fun γ : H72 => γ.2.2.2.2.2.2.2.2.2.2.2.2.2.2.2.2.2.1)) ⟨rg 17 rfl⟩))) (te_idx (i_L (e := eI)) (te_var (Γ := C72) (e := (eL eI)) (g := (fun γ : H72 => γ.2.2.2.2.2.2.2.2.1)) ⟨rg 8 rfl⟩) (te_var (Γ := C72) (e := eI) (g := (fun γ : H72 => γ.2.2.2.2.2.2.2.2.2.2.2.2.2.2.2.2.2.1)) ⟨rg 17 rfl⟩)))))))
  (ts_ret (tm_keep (te_con eB false rfl)) (ri_loop (ri_loop (ri_loop (ri_loop (ri_fn rfl (fr_imm im_B _ _)))))))
  (ts_nil (en_gnx (Γ := C27) (Γl := C25) (wk := (fun γ : H27 => ((γ.1, γ.2.1, γ.2.2.1, γ.2.2.2.1, γ.2.2.2.2.1, γ.2.2.2.2.2.1, γ.2.2.2.2.2.2.1, γ.2.2.2.2.2.2.2.1, γ.2.2.2.2.2.2.2.2.1, γ.2.2.2.2.2.2.2.2.2.1, (), γ.2.2.2.2.2.2.2.2.2.2.2.1, γ.2.2.2.2.2.2.2.2.2.2.2.2.1, (), γ.2.2.2.2.2.2.2.2.2.2.2.2.2.2) : H25))) (wn_s (wn_s (wn_s (wn_s (wn_s (wn_s (wn_s (wn_s (wn_s (wn_s (wn_jV (wn_s (wn_s (wn_xO (im_O im_I) wn_id))))))))))))))))))))⟩
def z_law_L4 : S_law_L4 := s_law_L4 z_law_L5 z_in_turn z_waiting z_last_free
abbrev C73 : List K := [kV (eL eI), kV (eL eI), kO (eL eI), kV eI, kV eI, kV eI, kV eI, kV eI, kV (eL eI), kV (eT (eT eI)), kJ, kV (eO (eP2 eI (eT eI))), kJ, kX, kJ, kJ, kJ, kJ, kJ, kJ, kJ, kJ, kN]
abbrev H73 : Type := (List Int) × (List Int) × (List Int) × Int × Int × Int × Int × Int × (List Int) × (List (List Int)) × Unit × (Option (Int × (List Int))) × Unit × Unit × Unit × Unit × Unit × Unit × Unit × Unit × Unit × Unit × Unit × Unit
abbrev C74 : List K := [kV eI, kN, kN, kN, kN, kN]
abbrev C75 : List K := [kV eI, kV (eL (eT eI)), kN, kN, kN, kN]
abbrev H74 : Type := Int × Unit × Unit × Unit × Unit × Unit × Unit
abbrev H75 : Type := Int × (List (List Int)) × Unit × Unit × Unit × Unit × Unit
abbrev C76 : List K := [kV eI, kV (eL (eT eI)), kJ, kJ, kJ, kN]
abbrev C77 : List K := [kV eI, kV (eL (eT eI)), kV eI, kJ, kJ, kN]
abbrev H76 : Type := Int × (List (List Int)) × Unit × Unit × Unit × Unit × Unit
abbrev H77 : Type := Int × (List (List Int)) × Int × Unit × Unit × Unit × Unit
abbrev C78 : List K := [kV eI, kV (eL (eT eI)), kV eI, kV (eL (eT eI)), kJ, kN]
abbrev H78 : Type := Int × (List (List Int)) × Int × (List (List Int)) × Unit × Unit × Unit
abbrev C79 : List K := [kV eI, kV (eL (eT eI)), kV eI, kV (eL (eT eI)), kV (eT eI), kN]
abbrev H79 : Type := Int × (List (List Int)) × Int × (List (List Int)) × (List Int) × Unit × Unit
abbrev C80 : List K := [kV eI, kV (eL (eT eI)), kV eI, kV (eL (eT eI)), kV (eT eI), kV eI]
abbrev H80 : Type := Int × (List (List Int)) × Int × (List (List Int)) × (List Int) × Int × Unit
abbrev S__law_perms := {g : Int → Option (List (List Int)) // ∀ n, FS (callF tab (n + 1)) f__law_perms C46 (eL (eT eI)) (fun a : H46 => g a.1)}
def p__law_perms : {g : H46 → Option (List (List Int)) // ∀ n, FS (callF tab (n + 1)) f__law_perms C46 (eL (eT eI)) g} := ⟨_, fun n => fs_of (fn := ⟨1, 6, [], 0, b__law_perms⟩) (ps := C46) (Γ := C74) (st := fun a : H46 => ((a.1, (), (), (), (), (), ()) : H74)) rfl rfl rfl rfl rfl (start_rel (fn := ⟨1, 6, [], 0, b__law_perms⟩) (ps := C46) rfl rfl rfl)
  (ts_asgV (Γ1 := C74) (Γ2 := C75) (up := (fun x (γ : H74) => ((γ.1, x, γ.2.2) : H75))) (tm_keep (te_lst rfl (tl_cons (te_tup rfl (tl_nil (e := eI))) tl_nil))) (nk0 _) (up_V 1 (eL (eT eI)))
  (ts_for (Γ1 := C75) (Γl := C76) (Γb := C77) (wk := (fun γ : H75 => ((γ.1, γ.2.1, (), (), (), γ.2.2.2.2.2) : H76))) (ti_keep (Γ := C75) (Γ' := C75) (wk := fun γ : H75 => γ) (it_L (e := eI)) fz_nil (te_rng (te_con eI 0 rfl) (te_var (Γ := C75) (e := eI) (g := (fun γ : H75 => γ.1)) ⟨rg 0 rfl⟩))) (wn_s (wn_s (wn_jN (wn_jN (wn_jN wn_id))))) (tg_nm (Γ := C76) (Γ' := C77) (up := (fun x (γ : H76) => ((γ.1, γ.2.1, x, γ.2.2.2) : H77))) (up_V 2 eI))
  (ts_asgV (Γ1 := C77) (Γ2 := C78) (up := (fun x (γ : H77) => ((γ.1, γ.2.1, γ.2.2.1, x, γ.2.2.2.2) : H78))) (tm_keep (te_lst rfl (tl_nil (e := (eT eI))))) (nk0 _) (up_V 3 (eL (eT eI)))
  (ts_for (Γ1 := C78) (Γl := C78) (Γb := C79) (wk := (fun γ : H78 => γ)) (ti_keep (Γ := C78) (Γ' := C78) (wk := fun γ : H78 => γ) (it_L (e := (eT eI))) fz_nil (te_var (Γ := C78) (e := (eL (eT eI))) (g := (fun γ : H78 => γ.2.1)) ⟨rg 1 rfl⟩)) wn_id (tg_nm (Γ := C78) (Γ' := C79) (up := (fun x (γ : H78) => ((γ.1, γ.2.1, γ.2.2.1, γ.2.2.2.1, x, γ.2.2.2.2.2) : H79))) (up_V 4 (eT eI)))
  (ts_asgV (Γ1 := C79) (Γ2 := C79) (up := (fun x (γ : H79) => ((γ.1, γ.2.1, γ.2.2.1, x, γ.2.2.2.2) : H79))) (tm_keep (te_bin (o_catL (e := (eT eI))) (te_var (Γ := C79) (e := (eL (eT eI))) (g := (fun γ : H79 => γ.2.2.2.1)) ⟨rg 3 rfl⟩) (te_comp (Γ := C79) (Γw := C79) (Γ' := C80) (wk := (fun γ : H79 => ((γ.1, γ.2.1, γ.2.2.1, γ.2.2.2.1, γ.2.2.2.2.1, (), γ.2.2.2.2.2.2) : H79))) (it_L (e := eI)) (te_rng (te_con eI 0 rfl) (te_var (Γ := C79) (e := eI) (g := (fun γ : H79 => γ.1)) ⟨rg 0 rfl⟩)) rfl (wk_cons (i := 5) wk_nil) (tg_nm (Γ := C79) (Γ' := C80) (up := (fun x (γ : H79) => ((γ.1, γ.2.1, γ.2.2.1, γ.2.2.2.1, γ.2.2.2.2.1, x, γ.2.2.2.2.2.2) : H80))) (up_V 5 eI)) (tc_some (te_cmp (r_ninT nc_I (Nat.le_of_ble_eq_true rfl)) (te_var (Γ := C80) (e := eI) (g := (fun γ : H80 => γ.2.2.2.2.2.1)) ⟨rg 5 rfl⟩) (te_var (Γ := C80) (e := (eT eI)) (g := (fun γ : H80 => γ.2.2.2.2.1)) ⟨rg 4 rfl⟩))) (te_bin (o_catT (e := eI)) (te_var (Γ := C80) (e := (eT eI)) (g := (fun γ : H80 => γ.2.2.2.2.1)) ⟨rg 4 rfl⟩) (te_tup rfl (tl_cons (te_var (Γ := C80) (e := eI) (g := (fun γ : H80 => γ.2.2.2.2.2.1)) ⟨rg 5 rfl⟩) tl_nil)))))) (nk0 _) (up_V 3 (eL (eT eI)))
  (ts_nil (en_lnx (Γ := C79) (Γl := C78) (wk := (fun γ : H79 => ((γ.1, γ.2.1, γ.2.2.1, γ.2.2.2.1, (), γ.2.2.2.2.2) : H78))) (wn_s (wn_s (wn_s (wn_s (wn_jV wn_id))))))))
  (ts_asgV (Γ1 := C78) (Γ2 := C78) (up := (fun x (γ : H78) => ((γ.1, x, γ.2.2) : H78))) (tm_keep (te_var (Γ := C78) (e := (eL (eT eI))) (g := (fun γ : H78 => γ.2.2.2.1)) ⟨rg 3 rfl⟩)) (nk0 _) (up_V 1 (eL (eT eI)))
  (ts_nil (en_lnx (Γ := C78) (Γl := C76) (wk := (fun γ : H78 => ((γ.1, γ.2.1, (), (), γ.2.2.2.2) : H76))) (wn_s (wn_s (wn_jV (wn_jV wn_id)))))))))
  (ts_retV (Γ := C76) (e := (eL (eT eI))) (g := (fun γ : H76 => γ.2.1)) ⟨rg 1 rfl⟩ (ri_fn rfl (fun _ => rfl)))))⟩
def s__law_perms : S__law_perms := ⟨fun a0 => (p__law_perms).1 (a0, ()), fun n => (p__law_perms).2 n⟩
def z__law_perms : S__law_perms := s__law_perms
abbrev C81 : List K := [kV (eL eI), kV (eL eI), kO (eL eI), kV eI, kV eI, kV eI, kV eI, kV eI, kV (eL eI), kV (eT (eT eI)), kJ, kV (eO (eP2 eI (eT eI))), kV (eT eI), kX, kJ, kJ, kJ, kJ, kJ, kJ, kJ, kJ, kN]
abbrev H81 : Type := (List Int) × (List Int) × (List Int) × Int × Int × Int × Int × Int × (List Int) × (List (List Int)) × Unit × (Option (Int × (List Int))) × (List Int) × Unit × Unit × Unit × Unit × Unit × Unit × Unit × Unit × Unit × Unit × Unit
abbrev C82 : List K := [kV (eL eI), kV (eL eI), kO (eL eI), kV eI, kV eI, kV eI, kV eI, kV eI, kV (eL eI), kV (eT (eT eI)), kJ, kV (eO (eP2 eI (eT eI))), kV (eT eI), kX, kJ, kV eI, kJ, kJ, kJ, kJ, kJ, kJ, kN]
abbrev H82 : Type := (List Int) × (List Int) × (List Int) × Int × Int × Int × Int × Int × (List Int) × (List (List Int)) × Unit × (Option (Int × (List Int))) × (List Int) × Unit × Unit × Int × Unit × Unit × Unit × Unit × Unit × Unit × Unit × Unit
abbrev C83 : List K := [kV (eL eI), kV (eL eI), kO (eL eI), kV eI, kV eI, kV eI, kV eI, kV eI, kV (eL eI), kV (eT (eT eI)), kJ, kV (eO (eP2 eI (eT eI))), kV (eT eI), kX, kJ, kV eI, kV eI, kJ, kJ, kJ, kJ, kJ, kN]
abbrev H83 : Type := (List Int) × (List Int) × (List Int) × Int × Int × Int × Int × Int × (List Int) × (List (List Int)) × Unit × (Option (Int × (List Int))) × (List Int) × Unit × Unit × Int × Int × Unit × Unit × Unit × Unit × Unit × Unit × Unit
abbrev C84 : List K := [kV (eL eI), kV (eL eI), kO (eL eI), kV eI, kV eI, kV eI, kV eI, kV eI, kV (eL eI), kV (eT (eT eI)), kJ, kV (eO (eP2 eI (eT eI))), kV (eT eI), kX, kJ, kV eI, kV eI, kV eI, kJ, kJ, kJ, kJ, kN]
abbrev H84 : Type := (List Int) × (List Int) × (List Int) × Int × Int × Int × Int × Int × (List Int) × (List (List Int)) × Unit × (Option (Int × (List Int))) × (List Int) × Unit × Unit × Int × Int × Int × Unit × Unit × Unit × Unit × Unit × Unit
abbrev C85 : List K := [kV (eL eI), kV (eL eI), kO (eL eI), kV eI, kV eI, kV eI, kV eI, kV eI, kV (eL eI), kV (eT (eT eI)), kJ, kV (eO (eP2 eI (eT eI))), kV (eT eI), kX, kJ, kV eI, kV eI, kV eI, kJ, kV eI, kJ, kJ, kN]
abbrev H85 : Type := (List Int) × (List Int) × (List Int) × Int × Int × Int × Int × Int × (List Int) × (List (List Int)) × Unit × (Option (Int × (List Int))) × (List Int) × Unit × Unit × Int × Int × Int × Unit × Int × Unit × Unit × Unit × Unit
abbrev S_law_L7 := {w : H81 → Option H73 // ∀ n, TS tab (callF tab n) C81 b_law_L7 w (PL C73)}
def s_law_L7 : S_law_L7 := ⟨_, fun n => (ts_asgV (Γ1 := C81) (Γ2 := C82) (up := (fun x (γ : H81) => ((γ.1, γ.2.1, γ.2.2.1, γ.2.2.2.1, γ.2.2.2.2.1, γ.2.2.2.2.2.1, γ.2.2.2.2.2.2.1, γ.2.2.2.2.2.2.2.1, γ.2.2.2.2.2.2.2.2.1, γ.2.2.2.2.2.2.2.2.2.1, γ.2.2.2.2.2.2.2.2.2.2.1, γ.2.2.2.2.2.2.2.2.2.2.2.1, γ.2.2.2.2.2.2.2.2.2.2.2.2.1, γ.2.2.2.2.2.2.2.2.2.2.2.2.2.1, γ.2.2.2.2.2.2.2.2.2.2.2.2.2.2.1, x, γ.2.2.2.2.2.2.2.2.2.2.2.2.2.2.2.2) : H82))) (tm_keep (te_con eI 0 rfl)) (nk0 _) (up_V 15 eI)
  (ts_asgV (Γ1 := C82) (Γ2 := C83) (up := (fun x (γ : H82) => ((γ.1, γ.2.1, γ.2.2.1, γ.2.2.2.1, γ.2.2.2.2.1, γ.2.2.2.2.2.1, γ.2.2.2.2.2.2.1, γ.2.2.2.2.2.2.2.1, γ.2.2.2.2.2.2.2.2.1, γ.2.2.2.2.2.2.2.2.2.1, γ.2.2.2.2.2.2.2.2.2.2.1, γ.2.2.2.2.2.2.2.2.2.2.2.1, γ.2.2.2.2.2.2.2.2.2.2.2.2.1, γ.2.2.2.2.2.2.2.2.2.2.2.2.2.1, γ.2.2.2.2.2.2.2.2.2.2.2.2.2.2.1, γ.2.2.2.2.2.2.2.2.2.2.2.2.2.2.2.1, x, γ.2.2.2.2.2.2.2.2.2.2.2.2.2.2.2.2.2) : H83))) (tm_keep (te_con eI 0 rfl)) (nk0 _) (up_V 16 eI)
  (ts_for (Γ1 := C83) (Γl := C83) (Γb := C84) (wk := (fun γ : H83 => γ)) (ti_keep (Γ := C83) (Γ' := C83) (wk := fun γ : H83 => γ) (it_T (e := eI)) fz_nil (te_var (Γ := C83) (e := (eT eI)) (g := (fun γ : H83 => γ.2.2.2.2.2.2.2.2.2.2.2.2.1)) ⟨rg 12 rfl⟩)) wn_id (tg_nm (Γ := C83) (Γ' := C84) (up := (fun x (γ : H83) => ((γ.1, γ.2.1, γ.2.2.1, γ.2.2.2.1, γ.2.2.2.2.1, γ.2.2.2.2.2.1, γ.2.2.2.2.2.2.1, γ.2.2.2.2.2.2.2.1, γ.2.2.2.2.2.2.2.2.1, γ.2.2.2.2.2.2.2.2.2.1, γ.2.2.2.2.2.2.2.2.2.2.1, γ.2.2.2.2.2.2.2.2.2.2.2.1, γ.2.2.2.2.2.2.2.2.2.2.2.2.1, γ.2.2.2.2.2.2.2.2.2.2.2.2.2.1, γ.2.2.2.2.2.2.2.2.2.2.2.2.2.2.1, γ.2.2.2.2.2.2.2.2.2.2.2.2.2.2.2.1, γ.2.2.2.2.2.2.2.2.2.2.2.2.2.2.2.2.1, x, γ.2.2.2.2.2.2.2.2.2.2.2.2.2.2.2.2.2.2) : H84))) (up_V 17 eI))
  (ts_asgV (Γ1 := C84) (Γ2 := C85) (up := (fun x (γ : H84) => ((γ.1, γ.2.1, γ.2.2.1, γ.2.2.2.1, γ.2.2.2.2.1, γ.2.2.2.2.2.1, γ.2.2.2.2.2.2.1, γ.2.2.2.2.2.2.2.1, γ.2.2.2.2.2.2.2.2.1, γ.2.2.2.2.2.2.2.2.2.1, γ.2.2.2.2.2.2.2.2.2.2.1, γ.2.2.2.2.2.2.2.2.2.2.2.1, γ.2.2.2.2.2.2.2.2.2.2.2.2.1, γ.2.2.2.2.2.2.2.2.2.2.2.2.2.1, γ.2.2.2.2.2.2.2.2.2.2.2.2.2.2.1, γ.2.2.2.2.2.2.2.2.2.2.2.2.2.2.2.1, γ.2.2.2.2.2.2.2.2.2.2.2.2.2.2.2.2.1, γ.2.2.2.2.2.2.2.2.2.2.2.2.2.2.2.2.2.1, γ.2.2.2.2.2.2.2.2.2.2.2.2.2.2.2.2.2.2.1, x, γ.2.2.2.2.2.2.2.2.2.2.2.2.2.2.2.2.2.2.2.2) : H85))) (tm_keep (te_bi2 b_max2 (te_var (Γ := C84) (e := eI) (g := (fun γ : H84 => γ.2.2.2.2.2.2.2.2.2.2.2.2.2.2.2.1)) ⟨rg 15 rfl⟩) (te_idx (i_T (e := eI)) (te_idx (i_T (e := (eT eI))) (te_var (Γ := C84) (e := (eT (eT eI))) (g := (fun γ : H84 => γ.2.2.2.2.2.2.2.2.2.1)) ⟨rg 9 rfl⟩) (te_var (Γ := C84) (e := eI) (g := (fun γ : H84 => γ.2.2.2.2.2.2.2.2.2.2.2.2.2.2.2.2.2.1)) ⟨rg 17 rfl⟩)) (te_con eI 0 rfl)))) (nk0 _) (up_V 19 eI)
  (ts_asgV (Γ1 := C85) (Γ2 := C85) (up := (fun x (γ : H85) => ((γ.1, γ.2.1, γ.2.2.1, γ.2.2.2.1, γ.2.2.2.2.1, γ.2.2.2.2.2.1, γ.2.2.2.2.2.2.1, γ.2.2.2.2.2.2.2.1, γ.2.2.2.2.2.2.2.2.1, γ.2.2.2.2.2.2.2.2.2.1, γ.2.2.2.2.2.2.2.2.2.2.1, γ.2.2.2.2.2.2.2.2.2.2.2.1, γ.2.2.2.2.2.2.2.2.2.2.2.2.1, γ.2.2.2.2.2.2.2.2.2.2.2.2.2.1, γ.2.2.2.2.2.2.2.2.2.2.2.2.2.2.1, γ.2.2.2.2.2.2.2.2.2.2.2.2.2.2.2.1, x, γ.2.2.2.2.2.2.2.2.2.2.2.2.2.2.2.2.2) : H85))) (tm_keep (te_bin o_sub (te_bin o_add (te_var (Γ := C85) (e := eI) (g := (fun γ : H85 => γ.2.2.2.2.2.2.2.2.2.2.2.2.2.2.2.2.1)) ⟨rg 16 rfl⟩) (te_var (Γ := C85) (e := eI) (g := (fun γ : H85 => γ.2.2.2.2.2.2.2.2.2.2.2.2.2.2.2.2.2.2.2.1)) ⟨rg 19 rfl⟩)) (te_idx (i_T (e := eI)) (te_idx (i_T (e := (eT eI))) (te_var (Γ := C85) (e := (eT (eT eI))) (g := (fun γ : H85 => γ.2.2.2.2.2.2.2.2.2.1)) ⟨rg 9 rfl⟩) (te_var (Γ := C85) (e := eI) (g := (fun γ : H85 => γ.2.2.2.2.2.2.2.2.2.2.2.2.2.2.2.2.2.1)) ⟨rg 17 rfl⟩)) (te_con eI 0 rfl)))) (nk0 _) (up_V 16 eI)
  (ts_asgV (Γ1 := C85) (Γ2 := C85) (up := (fun x (γ : H85) => ((γ.1, γ.2.1, γ.2.2.1, γ.2.2.2.1, γ.2.2.2.2.1, γ.2.2.2.2.2.1, γ.2.2.2.2.2.2.1, γ.2.2.2.2.2.2.2.1, γ.2.2.2.2.2.2.2.2.1, γ.2.2.2.2.2.2.2.2.2.1, γ.2.2.2.2.2.2.2.2.2.2.1, γ.2.2.2.2.2.2.2.2.2.2.2.1, γ.2.2.2.2.2.2.2.2.2.2.2.2.1, γ.2.2.2.2.2.2.2.2.2.2.2.2.2.1, γ.2.2.2.2.2.2.2.2.2.2.2.2.2.2.1, x, γ.2.2.2.2.2.2.2.2.2.2.2.2.2.2.2.2) : H85))) (tm_keep (te_bin o_add (te_var (Γ := C85) (e := eI) (g := (fun γ : H85 => γ.2.2.2.2.2.2.2.2.2.2.2.2.2.2.2.2.2.2.2.1)) ⟨rg 19 rfl⟩) (te_idx (i_L (e := eI)) (te_var (Γ := C85) (e := (eL eI)) (g := (fun γ : H85 => γ.2.2.2.2.2.2.2.2.1)) ⟨rg 8 rfl⟩) (te_var (Γ := C85) (e := eI) (g := (fun γ : H85 => γ.2.2.2.2.2.2.2.2.2.2.2.2.2.2.2.2.2.1)) ⟨rg 17 rfl⟩)))) (nk0 _) (up_V 15 eI)
  (ts_nil (en_lnx (Γ := C85) (Γl := C83) (wk := (fun γ : H85 => ((γ.1, γ.2.1, γ.2.2.1, γ.2.2.2.1, γ.2.2.2.2.1, γ.2.2.2.2.2.1, γ.2.2.2.2.2.2.1, γ.2.2.2.2.2.2.2.1, γ.2.2.2.2.2.2.2.2.1, γ.2.2.2.2.2.2.2.2.2.1, γ.2.2.2.2.2.2.2.2.2.2.1, γ.2.2.2.2.2.2.2.2.2.2.2.1, γ.2.2.2.2.2.2.2.2.2.2.2.2.1, γ.2.2.2.2.2.2.2.2.2.2.2.2.2.1, γ.2.2.2.2.2.2.2.2.2.2.2.2.2.2.1, γ.2.2.2.2.2.2.2.2.2.2.2.2.2.2.2.1, γ.2.2.2.2.2.2.2.2.2.2.2.2.2.2.2.2.1, (), γ.2.2.2.2.2.2.2.2.2.2.2.2.2.2.2.2.2.2.1, (), γ.2.2.2.2.2.2.2.2.2.2.2.2.2.2.2.2.2.2.2.2) : H83))) (wn_s (wn_s (wn_s (wn_s (wn_s (wn_s (wn_s (wn_s (wn_s (wn_s (wn_s (wn_s (wn_s (wn_s (wn_s (wn_s (wn_s (wn_jV (wn_s (wn_jV wn_id)))))))))))))))))))))))))
  (ts_asgV (Γ1 := C83) (Γ2 := C83) (up := (fun x (γ : H83) => ((γ.1, γ.2.1, γ.2.2.1, γ.2.2.2.1, γ.2.2.2.2.1, γ.2.2.2.2.2.1, γ.2.2.2.2.2.2.1, γ.2.2.2.2.2.2.2.1, γ.2.2.2.2.2.2.2.2.1, γ.2.2.2.2.2.2.2.2.2.1, γ.2.2.2.2.2.2.2.2.2.2.1, x, γ.2.2.2.2.2.2.2.2.2.2.2.2) : H83))) (tm_keep (te_ite (e := (eO (eP2 eI (eT eI)))) (te_or (te_cmp (c_isnO n_P2) (te_var (Γ := C83) (e := (eO (eP2 eI (eT eI)))) (g := (fun γ : H83 => γ.2.2.2.2.2.2.2.2.2.2.2.1)) ⟨rg 11 rfl⟩) (te_con eU () rfl)) (te_cmp (r_ltN (or_P2 or_I (or_T or_I)) (Nat.le_of_ble_eq_true rfl)) (te_p2 (te_var (Γ := C83) (e := eI) (g := (fun γ : H83 => γ.2.2.2.2.2.2.2.2.2.2.2.2.2.2.2.2.1)) ⟨rg 16 rfl⟩) (te_var (Γ := C83) (e := (eT eI)) (g := (fun γ : H83 => γ.2.2.2.2.2.2.2.2.2.2.2.2.1)) ⟨rg 12 rfl⟩)) (te_na (fun x => x) na_O (te_var (Γ := C83) (e := (eO (eP2 eI (eT eI)))) (g := (fun γ : H83 => γ.2.2.2.2.2.2.2.2.2.2.2.1)) ⟨rg 11 rfl⟩)))) (te_co (e2 := (eO (eP2 eI (eT eI)))) (fun x => some ((fun x => x) x)) (fun x => ((fun _ => rfl)) x) (te_p2 (te_var (Γ := C83) (e := eI) (g := (fun γ : H83 => γ.2.2.2.2.2.2.2.2.2.2.2.2.2.2.2.2.1)) ⟨rg 16 rfl⟩) (te_var (Γ := C83) (e := (eT eI)) (g := (fun γ : H83 => γ.2.2.2.2.2.2.2.2.2.2.2.2.1)) ⟨rg 12 rfl⟩))) (te_var (Γ := C83) (e := (eO (eP2 eI (eT eI)))) (g := (fun γ : H83 => γ.2.2.2.2.2.2.2.2.2.2.2.1)) ⟨rg 11 rfl⟩))) (nk0 _) (up_V 11 (eO (eP2 eI (eT eI))))
  (ts_nil (en_lnx (Γ := C83) (Γl := C73) (wk := (fun γ : H83 => ((γ.1, γ.2.1, γ.2.2.1, γ.2.2.2.1, γ.2.2.2.2.1, γ.2.2.2.2.2.1, γ.2.2.2.2.2.2.1, γ.2.2.2.2.2.2.2.1, γ.2.2.2.2.2.2.2.2.1, γ.2.2.2.2.2.2.2.2.2.1, γ.2.2.2.2.2.2.2.2.2.2.1, γ.2.2.2.2.2.2.2.2.2.2.2.1, (), γ.2.2.2.2.2.2.2.2.2.2.2.2.2.1, γ.2.2.2.2.2.2.2.2.2.2.2.2.2.2.1, (), (), γ.2.2.2.2.2.2.2.2.2.2.2.2.2.2.2.2.2) : H73))) (wn_s (wn_s (wn_s (wn_s (wn_s (wn_s (wn_s (wn_s (wn_s (wn_s (wn_s (wn_s (wn_jV (wn_s (wn_s (wn_jV (wn_jV wn_id)))))))))))))))))))))))⟩
def z_law_L7 : S_law_L7 := s_law_L7
abbrev C86 : List K := [kV eI, kN, kN, kN, kN]
abbrev C87 : List K := [kV eI, kV (eL (eT eI)), kN, kN, kN]
abbrev H86 : Type := Int × Unit × Unit × Unit × Unit × Unit
abbrev H87 : Type := Int × (List (List Int)) × Unit × Unit × Unit × Unit
abbrev C88 : List K := [kV eI, kV (eL (eT eI)), kJ, kN, kN]
abbrev C89 : List K := [kV eI, kV (eL (eT eI)), kV eI, kN, kN]
abbrev H88 : Type := Int × (List (List Int)) × Unit × Unit × Unit × Unit
abbrev H89 : Type := Int × (List (List Int)) × Int × Unit × Unit × Unit
abbrev C90 : List K := [kV eI, kV (eL (eT eI)), kV eI, kV (eT eI), kN]
abbrev H90 : Type := Int × (List (List Int)) × Int × (List Int) × Unit × Unit
abbrev C91 : List K := [kV eI, kV (eL (eT eI)), kV eI, kV (eT eI), kV eI]
abbrev H91 : Type := Int × (List (List Int)) × Int × (List Int) × Int × Unit
abbrev S_all_orders := {g : Int → Option (List (List Int)) // ∀ n, FS (callF tab (n + 1)) f_all_orders C46 (eL (eT eI)) (fun a : H46 => g a.1)}
def p_all_orders : {g : H46 → Option (List (List Int)) // ∀ n, FS (callF tab (n + 1)) f_all_orders C46 (eL (eT eI)) g} := ⟨_, fun n => fs_of (fn := ⟨1, 5, [], 0, b_all_orders⟩) (ps := C46) (Γ := C86) (st := fun a : H46 => ((a.1, (), (), (), (), ()) : H86)) rfl rfl rfl rfl rfl (start_rel (fn := ⟨1, 5, [], 0, b_all_orders⟩) (ps := C46) rfl rfl rfl)
  (ts_asgV (Γ1 := C86) (Γ2 := C87) (up := (fun x (γ : H86) => ((γ.1, x, γ.2.2) : H87))) (tm_keep (te_lst rfl (tl_cons (te_tup rfl (tl_nil (e := eI))) tl_nil))) (nk0 _) (up_V 1 (eL (eT eI)))
  (ts_for (Γ1 := C87) (Γl := C88) (Γb := C89) (wk := (fun γ : H87 => ((γ.1, γ.2.1, (), γ.2.2.2) : H88))) (ti_keep (Γ := C87) (Γ' := C87) (wk := fun γ : H87 => γ) (it_L (e := eI)) fz_nil (te_rng (te_con eI 0 rfl) (te_var (Γ := C87) (e := eI) (g := (fun γ : H87 => γ.1)) ⟨rg 0 rfl⟩))) (wn_s (wn_s (wn_jN wn_id))) (tg_nm (Γ := C88) (Γ' := C89) (up := (fun x (γ : H88) => ((γ.1, γ.2.1, x, γ.2.2.2) : H89))) (up_V 2 eI))
  (ts_asgV (Γ1 := C89) (Γ2 := C89) (up := (fun x (γ : H89) => ((γ.1, x, γ.2.2) : H89))) (tm_keep (te_comp2 (Γ := C89) (Γw := C89) (Γ1 := C90) (Γw1 := C90) (Γ2 := C91) (wk := (fun γ : H89 => ((γ.1, γ.2.1, γ.2.2.1, (), (), γ.2.2.2.2.2) : H89))) (wk1 := (fun γ : H90 => ((γ.1, γ.2.1, γ.2.2.1, γ.2.2.2.1, (), γ.2.2.2.2.2) : H90))) (it_L (e := (eT eI))) (te_var (Γ := C89) (e := (eL (eT eI))) (g := (fun γ : H89 => γ.2.1)) ⟨rg 1 rfl⟩) rfl (wk_cons (i := 3) (wk_cons (i := 4) wk_nil)) (tg_nm (Γ := C89) (Γ' := C90) (up := (fun x (γ : H89) => ((γ.1, γ.2.1, γ.2.2.1, x, γ.2.2.2.2) : H90))) (up_V 3 (eT eI))) tc_none (it_L (e := eI)) (te_rng (te_con eI 0 rfl) (te_var (Γ := C90) (e := eI) (g := (fun γ : H90 => γ.1)) ⟨rg 0 rfl⟩)) (wk_cons (i := 4) wk_nil) (tg_nm (Γ := C90) (Γ' := C91) (up := (fun x (γ : H90) => ((γ.1, γ.2.1, γ.2.2.1, γ.2.2.2.1, x, γ.2.2.2.2.2) : H91))) (up_V 4 eI)) (tc_some (te_cmp (r_ninT nc_I (Nat.le_of_ble_eq_true rfl)) (te_var (Γ := C91) (e := eI) (g := (fun γ : H91 => γ.2.2.2.2.1)) ⟨rg 4 rfl⟩) (te_var (Γ := C91) (e := (eT eI)) (g := (fun γ : H91 => γ.2.2.2.1)) ⟨rg 3 rfl⟩))) (te_bin (o_catT (e := eI)) (te_var (Γ := C91) (e := (eT eI)) (g := (fun γ : H91 => γ.2.2.2.1)) ⟨rg 3 rfl⟩) (te_tup rfl (tl_cons (te_var (Γ := C91) (e := eI) (g := (fun γ : H91 => γ.2.2.2.2.1)) ⟨rg 4 rfl⟩) tl_nil))))) (nk0 _) (up_V 1 (eL (eT eI)))
  (ts_nil (en_lnx (Γ := C89) (Γl := C88) (wk := (fun γ : H89 => ((γ.1, γ.2.1, (), γ.2.2.2) : H88))) (wn_s (wn_s (wn_jV wn_id))))))
  (ts_retV (Γ := C88) (e := (eL (eT eI))) (g := (fun γ : H88 => γ.2.1)) ⟨rg 1 rfl⟩ (ri_fn rfl (fun _ => rfl)))))⟩
def s_all_orders : S_all_orders := ⟨fun a0 => (p_all_orders).1 (a0, ()), fun n => (p_all_orders).2 n⟩
def z_all_orders : S_all_orders := s_all_orders
abbrev C92 : List K := [kV (eT (eT eI)), kV (eT eI), kV eI, kN, kN, kN, kN, kN, kN]
abbrev H92 : Type := (List (List Int)) × (List Int) × Int × Unit × Unit × Unit × Unit × Unit × Unit × Unit
abbrev C93 : List K := [kV (eT (eT eI)), kV (eT eI), kV eI, kO (eL eI), kN, kN, kN, kN, kN]
abbrev H93 : Type := (List (List Int)) × (List Int) × Int × (List Int) × Unit × Unit × Unit × Unit × Unit × Unit
abbrev C94 : List K := [kV (eT (eT eI)), kV (eT eI), kV eI, kO (eL eI), kO (eL eI), kN, kN, kN, kN]
abbrev H94 : Type := (List (List Int)) × (List Int) × Int × (List Int) × (List Int) × Unit × Unit × Unit × Unit × Unit
abbrev C95 : List K := [kV (eT (eT eI)), kV (eT eI), kV eI, kO (eL eI), kO (eL eI), kJ, kJ, kJ, kJ]
abbrev C96 : List K := [kV (eT (eT eI)), kV (eT eI), kV eI, kO (eL eI), kO (eL eI), kV eI, kJ, kJ, kJ]
abbrev H95 : Type := (List (List Int)) × (List Int) × Int × (List Int) × (List Int) × Unit × Unit × Unit × Unit × Unit
abbrev H96 : Type := (List (List Int)) × (List Int) × Int × (List Int) × (List Int) × Int × Unit × Unit × Unit × Unit
abbrev C97 : List K := [kV (eT (eT eI)), kV (eT eI), kV eI, kO (eL eI), kO (eL eI), kV eI, kJ, kV eI, kJ]
abbrev H97 : Type := (List (List Int)) × (List Int) × Int × (List Int) × (List Int) × Int × Unit × Int × Unit × Unit
abbrev C98 : List K := [kV (eT (eT eI)), kV (eT eI), kV eI, kO (eL eI), kO (eL eI), kV eI, kJ, kV eI, kV eI]
abbrev H98 : Type := (List (List Int)) × (List Int) × Int × (List Int) × (List Int) × Int × Unit × Int × Int × Unit
abbrev C99 : List K := [kV (eT (eT eI)), kV (eT eI), kV eI, kO (eL eI), kO (eL eI), kV eI, kV eI, kV eI, kV eI]
abbrev H99 : Type := (List (List Int)) × (List Int) × Int × (List Int) × (List Int) × Int × Int × Int × Int × Unit
abbrev C100 : List K := [kV (eT (eT eI)), kV (eT eI), kV eI]
abbrev H100 : Type := (List (List Int)) × (List Int) × Int × Unit
abbrev S_hours_begun_2 := {g : (List (List Int)) → (List Int) → Int → Option (List Int) // ∀ n, FS (callF tab (n + 1)) f_hours_begun C100 (eL eI) (fun a : H100 => g a.1 a.2.1 a.2.2.1)}
def p_hours_begun_2 : {g : H100 → Option (List Int) // ∀ n, FS (callF tab (n + 1)) f_hours_begun C100 (eL eI) g} := ⟨_, fun n => fs_of (fn := ⟨3, 9, [], 1, b_hours_begun⟩) (ps := C100) (Γ := C92) (st := fun a : H100 => ((a.1, a.2.1, a.2.2.1, (), (), (), (), (), (), ()) : H92)) rfl rfl rfl rfl rfl (start_rel (fn := ⟨3, 9, [], 1, b_hours_begun⟩) (ps := C100) rfl rfl rfl)
  (ts_asgO (Γ1 := C92) (Γ2 := C93) (up := (fun x (γ : H92) => ((γ.1, γ.2.1, γ.2.2.1, x, γ.2.2.2.2) : H93))) (tm_keep (te_lrep rfl (tl_cons (te_con eI 0 rfl) tl_nil) (te_bi1 (bt_len (e := (eT eI))) (te_var (Γ := C92) (e := (eT (eT eI))) (g := (fun γ : H92 => γ.1)) ⟨rg 0 rfl⟩)))) mt_L (up_O 3 (eL eI))
  (ts_asgO (Γ1 := C93) (Γ2 := C94) (up := (fun x (γ : H93) => ((γ.1, γ.2.1, γ.2.2.1, γ.2.2.2.1, x, γ.2.2.2.2.2) : H94))) (tm_keep (te_lrep rfl (tl_cons (te_con eI 0 rfl) tl_nil) (te_var (Γ := C93) (e := eI) (g := (fun γ : H93 => γ.2.2.1)) ⟨rg 2 rfl⟩))) mt_L (up_O 4 (eL eI))
  (ts_for (Γ1 := C94) (Γl := C95) (Γb := C96) (wk := (fun γ : H94 => ((γ.1, γ.2.1, γ.2.2.1, γ.2.2.2.1, γ.2.2.2.2.1, (), (), (), (), γ.2.2.2.2.2.2.2.2.2) : H95))) (ti_keep (Γ := C94) (Γ' := C94) (wk := fun γ : H94 => γ) (it_T (e := eI)) fz_nil (te_var (Γ := C94) (e := (eT eI)) (g := (fun γ : H94 => γ.2.1)) ⟨rg 1 rfl⟩)) (wn_s (wn_s (wn_s (wn_s (wn_s (wn_jN (wn_jN (wn_jN (wn_jN wn_id))))))))) (tg_nm (Γ := C95) (Γ' := C96) (up := (fun x (γ : H95) => ((γ.1, γ.2.1, γ.2.2.1, γ.2.2.2.1, γ.2.2.2.2.1, x, γ.2.2.2.2.2.2) : H96))) (up_V 5 eI))
  (ts_asgT (Γ1 := C96) (Γ2 := C98) (tm_keep (te_idx (i_T (e := (eT eI))) (te_var (Γ := C96) (e := (eT (eT eI))) (g := (fun γ : H96 => γ.1)) ⟨rg 0 rfl⟩) (te_var (Γ := C96) (e := eI) (g := (fun γ : H96 => γ.2.2.2.2.2.1)) ⟨rg 5 rfl⟩))) (tg_T (tgs_cons (tg_nm (Γ := C96) (Γ' := C97) (up := (fun x (γ : H96) => ((γ.1, γ.2.1, γ.2.2.1, γ.2.2.2.1, γ.2.2.2.2.1, γ.2.2.2.2.2.1, γ.2.2.2.2.2.2.1, x, γ.2.2.2.2.2.2.2.2) : H97))) (up_V 7 eI)) (tgs_cons (tg_nm (Γ := C97) (Γ' := C98) (up := (fun x (γ : H97) => ((γ.1, γ.2.1, γ.2.2.1, γ.2.2.2.1, γ.2.2.2.2.1, γ.2.2.2.2.2.1, γ.2.2.2.2.2.2.1, γ.2.2.2.2.2.2.2.1, x, γ.2.2.2.2.2.2.2.2.2) : H98))) (up_V 8 eI)) (tgs_nil (e := eI) (Γ := C98)))))
  (ts_asgV (Γ1 := C98) (Γ2 := C99) (up := (fun x (γ : H98) => ((γ.1, γ.2.1, γ.2.2.1, γ.2.2.2.1, γ.2.2.2.2.1, γ.2.2.2.2.2.1, x, γ.2.2.2.2.2.2.2) : H99))) (tm_look (lk_imm im_I _) (te_idxL (te_varO (Γ := C98) (e := (eL eI)) (g := (fun γ : H98 => γ.2.2.2.2.1)) ⟨rg 4 rfl⟩) (te_bi1 bl_minI (te_varO (Γ := C98) (e := (eL eI)) (g := (fun γ : H98 => γ.2.2.2.2.1)) ⟨rg 4 rfl⟩)))) (nk0 _) (up_V 6 eI)
  (ts_set (Γ1 := C99) (s_L (e := eI)) (tm_keep (te_bi2 b_max2 (te_var (Γ := C99) (e := eI) (g := (fun γ : H99 => γ.2.2.2.2.2.2.2.1)) ⟨rg 7 rfl⟩) (te_sidx (i_L (e := eI)) (la_O (Γ := C99) (e := (eL eI)) (g := (fun γ : H99 => γ.2.2.2.2.1)) ⟨rg 4 rfl⟩) (te_var (Γ := C99) (e := eI) (g := (fun γ : H99 => γ.2.2.2.2.2.2.1)) ⟨rg 6 rfl⟩)))) (um_O (Γ := C99) (e := (eL eI)) (g := (fun γ : H99 => γ.2.2.2.1)) (up := (fun x (γ : H99) => ((γ.1, γ.2.1, γ.2.2.1, x, γ.2.2.2.2) : H99))) ⟨rg 3 rfl⟩ (up_O 3 (eL eI))) (te_var (Γ := C99) (e := eI) (g := (fun γ : H99 => γ.2.2.2.2.2.1)) ⟨rg 5 rfl⟩)
  (ts_set (Γ1 := C99) (s_L (e := eI)) (tm_keep (te_bin o_add (te_sidx (i_L (e := eI)) (la_O (Γ := C99) (e := (eL eI)) (g := (fun γ : H99 => γ.2.2.2.1)) ⟨rg 3 rfl⟩) (te_var (Γ := C99) (e := eI) (g := (fun γ : H99 => γ.2.2.2.2.2.1)) ⟨rg 5 rfl⟩)) (te_var (Γ := C99) (e := eI) (g := (fun γ : H99 => γ.2.2.2.2.2.2.2.2.1)) ⟨rg 8 rfl⟩))) (um_O (Γ := C99) (e := (eL eI)) (g := (fun γ : H99 => γ.2.2.2.2.1)) (up := (fun x (γ : H99) => ((γ.1, γ.2.1, γ.2.2.1, γ.2.2.2.1, x, γ.2.2.2.2.2) : H99))) ⟨rg 4 rfl⟩ (up_O 4 (eL eI))) (te_var (Γ := C99) (e := eI) (g := (fun γ : H99 => γ.2.2.2.2.2.2.1)) ⟨rg 6 rfl⟩)
  (ts_nil (en_lnx (Γ := C99) (Γl := C95) (wk := (fun γ : H99 => ((γ.1, γ.2.1, γ.2.2.1, γ.2.2.2.1, γ.2.2.2.2.1, (), (), (), (), γ.2.2.2.2.2.2.2.2.2) : H95))) (wn_s (wn_s (wn_s (wn_s (wn_s (wn_jV (wn_jV (wn_jV (wn_jV wn_id)))))))))))))))
  (ts_retO (Γ := C95) (e := (eL eI)) (g := (fun γ : H95 => γ.2.2.2.1)) ⟨rg 3 rfl⟩ (ri_fn rfl (fun _ => rfl))))))⟩
def s_hours_begun_2 : S_hours_begun_2 := ⟨fun a0 a1 a2 => (p_hours_begun_2).1 (a0, a1, a2, ()), fun n => (p_hours_begun_2).2 n⟩
def z_hours_begun_2 : S_hours_begun_2 := s_hours_begun_2
abbrev S_least_waiting := {g : (List (List Int)) → Option (Int × (List Int)) // ∀ n, FS (callF tab (n + 5)) f_least_waiting C48 (eP2 eI (eT eI)) (fun a : H48 => g a.1)}
def p_least_waiting (s_require : S_require) (s_are_ships : S_are_ships) (s_all_orders : S_all_orders) (s_hours_waited : S_hours_waited) (s_hours_begun_2 : S_hours_begun_2) : {g : H48 → Option (Int × (List Int)) // ∀ n, FS (callF tab (n + 5)) f_least_waiting C48 (eP2 eI (eT eI)) g} := ⟨_, fun n => fs_of (fn := ⟨1, 2, [], 0, b_least_waiting⟩) (ps := C48) (Γ := C39) (st := fun a : H48 => ((a.1, (), ()) : H39)) rfl rfl rfl rfl rfl (start_rel (fn := ⟨1, 2, [], 0, b_least_waiting⟩) (ps := C48) rfl rfl rfl)
  (ts_exp (Γ1 := C39) (tm_keep (te_call (fn := ⟨2, 2, [], 1, b_require⟩) rfl rfl (s_require.2 _) (ta_cons (te_call (fn := ⟨1, 2, [], 0, b_are_ships⟩) rfl rfl (s_are_ships.2 _) (ta_cons (te_var (Γ := C39) (e := (eT (eT eI))) (g := (fun γ : H39 => γ.1)) ⟨rg 0 rfl⟩) ta_nil)) (ta_cons (te_con eI 0 rfl) ta_nil))))
  (ts_ret (tm_keep (te_bi1 (bl_min (or_P2 or_I (or_T or_I)) (Nat.le_of_ble_eq_true rfl)) (te_comp (Γ := C39) (Γw := C39) (Γ' := C41) (wk := (fun γ : H39 => ((γ.1, (), γ.2.2) : H39))) (it_L (e := (eT eI))) (te_call (fn := ⟨1, 5, [], 0, b_all_orders⟩) rfl rfl (s_all_orders.2 _) (ta_cons (te_bi1 (bt_len (e := (eT eI))) (te_var (Γ := C39) (e := (eT (eT eI))) (g := (fun γ : H39 => γ.1)) ⟨rg 0 rfl⟩)) ta_nil)) rfl (wk_cons (i := 1) wk_nil) (tg_nm (Γ := C39) (Γ' := C41) (up := (fun x (γ : H39) => ((γ.1, x, γ.2.2) : H41))) (up_V 1 (eT eI))) tc_none (te_p2 (te_call (fn := ⟨2, 4, [], 0, b_hours_waited⟩) rfl rfl (s_hours_waited.2 _) (ta_cons (te_var (Γ := C41) (e := (eT (eT eI))) (g := (fun γ : H41 => γ.1)) ⟨rg 0 rfl⟩) (ta_cons (te_call (fn := ⟨3, 9, [], 1, b_hours_begun⟩) rfl rfl (s_hours_begun_2.2 _) (ta_cons (te_var (Γ := C41) (e := (eT (eT eI))) (g := (fun γ : H41 => γ.1)) ⟨rg 0 rfl⟩) (ta_cons (te_var (Γ := C41) (e := (eT eI)) (g := (fun γ : H41 => γ.2.1)) ⟨rg 1 rfl⟩) (ta_cons (te_con eI 1 rfl) ta_nil)))) ta_nil))) (te_var (Γ := C41) (e := (eT eI)) (g := (fun γ : H41 => γ.2.1)) ⟨rg 1 rfl⟩))))) (ri_fn rfl (fun _ => rfl))))⟩
def s_least_waiting (s_require : S_require) (s_are_ships : S_are_ships) (s_all_orders : S_all_orders) (s_hours_waited : S_hours_waited) (s_hours_begun_2 : S_hours_begun_2) : S_least_waiting := ⟨fun a0 => (p_least_waiting s_require s_are_ships s_all_orders s_hours_waited s_hours_begun_2).1 (a0, ()), fun n => (p_least_waiting s_require s_are_ships s_all_orders s_hours_waited s_hours_begun_2).2 n⟩
def z_least_waiting : S_least_waiting := s_least_waiting z_require z_are_ships z_all_orders z_hours_waited z_hours_begun_2
abbrev S_law_L3 := {w : H21 → Option (Fl H20 (Fl H19 (Fl H18 Bool))) // ∀ n, TS tab (callF tab (n + 6)) C21 b_law_L3 w (PG C20 (PG C19 (PG C18 (PF ⟨1, 23, [], 1, b_law⟩ eB))))}
def s_law_L3 (s__law_take : S__law_take) (s_law_L4 : S_law_L4) (s__law_perms : S__law_perms) (s_law_L7 : S_law_L7) (s_least_waiting : S_least_waiting) (s_waiting : S_waiting) : S_law_L3 := ⟨_, fun n => (ts_asgV (Γ1 := C21) (Γ2 := C21) (up := (fun x (γ : H21) => ((γ.1, γ.2.1, γ.2.2.1, γ.2.2.2.1, x, γ.2.2.2.2.2) : H21))) (tm_keep (te_bin o_add (te_var (Γ := C21) (e := eI) (g := (fun γ : H21 => γ.2.2.2.2.1)) ⟨rg 4 rfl⟩) (te_con eI 1 rfl))) (nk0 _) (up_V 4 eI)
  (ts_if (Γ1 := C21) (tt_keep (te_cmp r_eq (te_bin o_mod (te_bi1 b_int (te_var (Γ := C21) (e := eI) (g := (fun γ : H21 => γ.2.2.2.2.1)) ⟨rg 4 rfl⟩)) (te_con eI 30 rfl)) (te_var (Γ := C21) (e := eI) (g := (fun γ : H21 => γ.2.2.2.1)) ⟨rg 3 rfl⟩)))
  (ts_asgV (Γ1 := C21) (Γ2 := C24) (up := (fun x (γ : H21) => ((γ.1, γ.2.1, γ.2.2.1, γ.2.2.2.1, γ.2.2.2.2.1, γ.2.2.2.2.2.1, γ.2.2.2.2.2.2.1, γ.2.2.2.2.2.2.2.1, x, γ.2.2.2.2.2.2.2.2.2) : H24))) (tm_io (Γ := C21) (Γ' := C21) (wk := fun γ : H21 => γ) (nk0 _) fz_nil (tx_comp (Γ := C21) (Γw := C22) (Γb := C23) (wk := (fun γ : H21 => ((γ.1, γ.2.1, γ.2.2.1, γ.2.2.2.1, γ.2.2.2.2.1, γ.2.2.2.2.2.1, γ.2.2.2.2.2.2.1, γ.2.2.2.2.2.2.2.1, γ.2.2.2.2.2.2.2.2.1, γ.2.2.2.2.2.2.2.2.2.1, γ.2.2.2.2.2.2.2.2.2.2.1, γ.2.2.2.2.2.2.2.2.2.2.2.1, γ.2.2.2.2.2.2.2.2.2.2.2.2.1, γ.2.2.2.2.2.2.2.2.2.2.2.2.2.1, γ.2.2.2.2.2.2.2.2.2.2.2.2.2.2.1, γ.2.2.2.2.2.2.2.2.2.2.2.2.2.2.2.1, γ.2.2.2.2.2.2.2.2.2.2.2.2.2.2.2.2.1, (), γ.2.2.2.2.2.2.2.2.2.2.2.2.2.2.2.2.2.2) : H22))) (wb := (fun γ : H23 => ((γ.1, γ.2.1, γ.2.2.1, γ.2.2.2.1, γ.2.2.2.2.1, γ.2.2.2.2.2.1, γ.2.2.2.2.2.2.1, γ.2.2.2.2.2.2.2.1, γ.2.2.2.2.2.2.2.2.1, γ.2.2.2.2.2.2.2.2.2.1, γ.2.2.2.2.2.2.2.2.2.2.1, γ.2.2.2.2.2.2.2.2.2.2.2.1, γ.2.2.2.2.2.2.2.2.2.2.2.2.1, γ.2.2.2.2.2.2.2.2.2.2.2.2.2.1, γ.2.2.2.2.2.2.2.2.2.2.2.2.2.2.1, γ.2.2.2.2.2.2.2.2.2.2.2.2.2.2.2.1, γ.2.2.2.2.2.2.2.2.2.2.2.2.2.2.2.2.1, (), γ.2.2.2.2.2.2.2.2.2.2.2.2.2.2.2.2.2.2) : H22))) (u := (fun (γ : H21) (δ : H22) => ((δ.1, δ.2.1, δ.2.2.1, δ.2.2.2.1, δ.2.2.2.2.1, δ.2.2.2.2.2.1, δ.2.2.2.2.2.2.1, δ.2.2.2.2.2.2.2.1, δ.2.2.2.2.2.2.2.2.1, δ.2.2.2.2.2.2.2.2.2.1, δ.2.2.2.2.2.2.2.2.2.2.1, δ.2.2.2.2.2.2.2.2.2.2.2.1, δ.2.2.2.2.2.2.2.2.2.2.2.2.1, δ.2.2.2.2.2.2.2.2.2.2.2.2.2.1, δ.2.2.2.2.2.2.2.2.2.2.2.2.2.2.1, δ.2.2.2.2.2.2.2.2.2.2.2.2.2.2.2.1, δ.2.2.2.2.2.2.2.2.2.2.2.2.2.2.2.2.1, γ.2.2.2.2.2.2.2.2.2.2.2.2.2.2.2.2.2.1, δ.2.2.2.2.2.2.2.2.2.2.2.2.2.2.2.2.2.2) : H21))) (it_L (e := eI)) (tx_te (te_rng (te_con eI 0 rfl) (te_con eI 3 rfl))) rfl (wk_cons (i := 17) wk_nil) (tg_nm (Γ := C22) (Γ' := C23) (up := (fun x (γ : H22) => ((γ.1, γ.2.1, γ.2.2.1, γ.2.2.2.1, γ.2.2.2.2.1, γ.2.2.2.2.2.1, γ.2.2.2.2.2.2.1, γ.2.2.2.2.2.2.2.1, γ.2.2.2.2.2.2.2.2.1, γ.2.2.2.2.2.2.2.2.2.1, γ.2.2.2.2.2.2.2.2.2.2.1, γ.2.2.2.2.2.2.2.2.2.2.2.1, γ.2.2.2.2.2.2.2.2.2.2.2.2.1, γ.2.2.2.2.2.2.2.2.2.2.2.2.2.1, γ.2.2.2.2.2.2.2.2.2.2.2.2.2.2.1, γ.2.2.2.2.2.2.2.2.2.2.2.2.2.2.2.1, γ.2.2.2.2.2.2.2.2.2.2.2.2.2.2.2.2.1, x, γ.2.2.2.2.2.2.2.2.2.2.2.2.2.2.2.2.2.2) : H23))) (up_V 17 eI)) tc_none (tx_bin o_add (tx_te (te_con eI 1 rfl)) (tx_call (fn := ⟨3, 3, [1], 0, b__law_take⟩) rfl rfl rfl rfl rfl (s__law_take.2 _) (tax_cons rfl (tx_te (te_var (Γ := C23) (e := (eL eI)) (g := (fun γ : H23 => γ.2.1)) ⟨rg 1 rfl⟩)) (tax_io rfl (um_O (Γ := C23) (e := (eL eI)) (g := (fun γ : H23 => γ.2.2.1)) (up := (fun x (γ : H23) => ((γ.1, γ.2.1, x, γ.2.2.2) : H23))) ⟨rg 2 rfl⟩ (up_O 2 (eL eI))) (tax_cons rfl (tx_te (te_con eI 4 rfl)) tax_nil))) (put_cons (um_O (Γ := C23) (e := (eL eI)) (g := (fun γ : H23 => γ.2.2.1)) (up := (fun x (γ : H23) => ((γ.1, γ.2.1, x, γ.2.2.2) : H23))) ⟨rg 2 rfl⟩ (up_O 2 (eL eI))) (put_nil (Γ := C23))))) (wk_cons (i := 17) wk_nil) (uw_cons (j := 17) rfl uw_nil))) (nk0 _) (up_V 8 (eL eI))
  (ts_asgV (Γ1 := C24) (Γ2 := C25) (up := (fun x (γ : H24) => ((γ.1, γ.2.1, γ.2.2.1, γ.2.2.2.1, γ.2.2.2.2.1, γ.2.2.2.2.2.1, γ.2.2.2.2.2.2.1, γ.2.2.2.2.2.2.2.1, γ.2.2.2.2.2.2.2.2.1, x, γ.2.2.2.2.2.2.2.2.2.2) : H25))) (tm_keep (te_tup rfl (tl_cons (te_tup rfl (tl_cons (te_var (Γ := C24) (e := eI) (g := (fun γ : H24 => γ.2.2.2.2.2.1)) ⟨rg 5 rfl⟩) (tl_cons (te_idx (i_L (e := eI)) (te_var (Γ := C24) (e := (eL eI)) (g := (fun γ : H24 => γ.2.2.2.2.2.2.2.2.1)) ⟨rg 8 rfl⟩) (te_con eI 0 rfl)) tl_nil))) (tl_cons (te_tup rfl (tl_cons (te_var (Γ := C24) (e := eI) (g := (fun γ : H24 => γ.2.2.2.2.2.2.1)) ⟨rg 6 rfl⟩) (tl_cons (te_idx (i_L (e := eI)) (te_var (Γ := C24) (e := (eL eI)) (g := (fun γ : H24 => γ.2.2.2.2.2.2.2.2.1)) ⟨rg 8 rfl⟩) (te_con eI 1 rfl)) tl_nil))) (tl_cons (te_tup rfl (tl_cons (te_var (Γ := C24) (e := eI) (g := (fun γ : H24 => γ.2.2.2.2.2.2.2.1)) ⟨rg 7 rfl⟩) (tl_cons (te_idx (i_L (e := eI)) (te_var (Γ := C24) (e := (eL eI)) (g := (fun γ : H24 => γ.2.2.2.2.2.2.2.2.1)) ⟨rg 8 rfl⟩) (te_con eI 2 rfl)) tl_nil))) tl_nil))))) (nk0 _) (up_V 9 (eT (eT eI)))
  (ts_forG (Γ1 := C25) (Γl := C25) (Γb := C26) (wk := (fun γ : H25 => γ)) (ti_keep (Γ := C25) (Γ' := C25) (wk := fun γ : H25 => γ) (it_L (e := eI)) fz_nil (te_rng (te_con eI 1 rfl) (te_con eI 4 rfl))) wn_id (tg_nm (Γ := C25) (Γ' := C26) (up := (fun x (γ : H25) => ((γ.1, γ.2.1, γ.2.2.1, γ.2.2.2.1, γ.2.2.2.2.1, γ.2.2.2.2.2.1, γ.2.2.2.2.2.2.1, γ.2.2.2.2.2.2.2.1, γ.2.2.2.2.2.2.2.2.1, γ.2.2.2.2.2.2.2.2.2.1, x, γ.2.2.2.2.2.2.2.2.2.2.2) : H26))) (up_V 10 eI))
  (s_law_L4.2 _)
  (ts_asgV (Γ1 := C25) (Γ2 := C73) (up := (fun x (γ : H25) => ((γ.1, γ.2.1, γ.2.2.1, γ.2.2.2.1, γ.2.2.2.2.1, γ.2.2.2.2.2.1, γ.2.2.2.2.2.2.1, γ.2.2.2.2.2.2.2.1, γ.2.2.2.2.2.2.2.2.1, γ.2.2.2.2.2.2.2.2.2.1, γ.2.2.2.2.2.2.2.2.2.2.1, x, γ.2.2.2.2.2.2.2.2.2.2.2.2) : H73))) (tm_keep (te_con (eO (eP2 eI (eT eI))) none rfl)) (nk0 _) (up_V 11 (eO (eP2 eI (eT eI))))
  (ts_for (Γ1 := C73) (Γl := C73) (Γb := C81) (wk := (fun γ : H73 => γ)) (ti_keep (Γ := C73) (Γ' := C73) (wk := fun γ : H73 => γ) (it_L (e := (eT eI))) fz_nil (te_call (fn := ⟨1, 6, [], 0, b__law_perms⟩) rfl rfl (s__law_perms.2 _) (ta_cons (te_con eI 3 rfl) ta_nil))) wn_id (tg_nm (Γ := C73) (Γ' := C81) (up := (fun x (γ : H73) => ((γ.1, γ.2.1, γ.2.2.1, γ.2.2.2.1, γ.2.2.2.2.1, γ.2.2.2.2.2.1, γ.2.2.2.2.2.2.1, γ.2.2.2.2.2.2.2.1, γ.2.2.2.2.2.2.2.2.1, γ.2.2.2.2.2.2.2.2.2.1, γ.2.2.2.2.2.2.2.2.2.2.1, γ.2.2.2.2.2.2.2.2.2.2.2.1, x, γ.2.2.2.2.2.2.2.2.2.2.2.2.2) : H81))) (up_V 12 (eT eI)))
  (s_law_L7.2 _)
  (ts_if (Γ1 := C73) (tt_keep (te_or (te_cmp (r_neN (nc_O (nc_P2 nc_I (nc_T nc_I)) n_P2 (Nat.le_of_ble_eq_true rfl)) (Nat.le_of_ble_eq_true rfl)) (te_co (e2 := (eO (eP2 eI (eT eI)))) (fun x => some ((fun x => x) x)) (fun x => ((fun _ => rfl)) x) (te_call (fn := ⟨1, 2, [], 0, b_least_waiting⟩) rfl rfl (s_least_waiting.2 _) (ta_cons (te_var (Γ := C73) (e := (eT (eT eI))) (g := (fun γ : H73 => γ.2.2.2.2.2.2.2.2.2.1)) ⟨rg 9 rfl⟩) ta_nil))) (te_var (Γ := C73) (e := (eO (eP2 eI (eT eI)))) (g := (fun γ : H73 => γ.2.2.2.2.2.2.2.2.2.2.2.1)) ⟨rg 11 rfl⟩)) (te_cmp r_ne (te_call (fn := ⟨2, 2, [], 0, b_waiting⟩) rfl rfl (s_waiting.2 _) (ta_cons (te_var (Γ := C73) (e := (eT (eT eI))) (g := (fun γ : H73 => γ.2.2.2.2.2.2.2.2.2.1)) ⟨rg 9 rfl⟩) (ta_cons (te_con eI 3 rfl) ta_nil))) (te_con eI 0 rfl))))
  (ts_ret (tm_keep (te_con eB false rfl)) (ri_loop (ri_loop (ri_loop (ri_fn rfl (fr_imm im_B _ _))))))
  (ts_nil (en_gnx (Γ := C73) (Γl := C20) (wk := (fun γ : H73 => ((γ.1, γ.2.1, γ.2.2.1, γ.2.2.2.1, γ.2.2.2.2.1, γ.2.2.2.2.2.1, γ.2.2.2.2.2.2.1, (), (), (), γ.2.2.2.2.2.2.2.2.2.2.1, (), γ.2.2.2.2.2.2.2.2.2.2.2.2) : H20))) (wn_s (wn_s (wn_s (wn_s (wn_s (wn_s (wn_s (wn_jV (wn_jV (wn_jV (wn_s (wn_jV wn_id))))))))))))))))))))
  (ts_nil (en_gnx (Γ := C21) (Γl := C20) (wk := (fun γ : H21 => ((γ.1, γ.2.1, γ.2.2.1, γ.2.2.2.1, γ.2.2.2.2.1, γ.2.2.2.2.2.1, γ.2.2.2.2.2.2.1, (), γ.2.2.2.2.2.2.2.2) : H20))) (wn_s (wn_s (wn_s (wn_s (wn_s (wn_s (wn_s (wn_jV wn_id))))))))))))⟩
def z_law_L3 : S_law_L3 := s_law_L3 z__law_take z_law_L4 z__law_perms z_law_L7 z_least_waiting z_waiting
abbrev S_law_L2 := {w : H20 → Option (Fl H19 (Fl H18 Bool)) // ∀ n, TS tab (callF tab (n + 6)) C20 b_law_L2 w (PG C19 (PG C18 (PF ⟨1, 23, [], 1, b_law⟩ eB)))}
def s_law_L2 (s_law_L3 : S_law_L3) : S_law_L2 := ⟨_, fun n => (ts_forG (Γ1 := C20) (Γl := C20) (Γb := C21) (wk := (fun γ : H20 => γ)) (ti_keep (Γ := C20) (Γ' := C20) (wk := fun γ : H20 => γ) (it_L (e := eI)) fz_nil (te_rng (te_con eI 0 rfl) (te_con eI 4 rfl))) wn_id (tg_nm (Γ := C20) (Γ' := C21) (up := (fun x (γ : H20) => ((γ.1, γ.2.1, γ.2.2.1, γ.2.2.2.1, γ.2.2.2.2.1, γ.2.2.2.2.2.1, γ.2.2.2.2.2.2.1, x, γ.2.2.2.2.2.2.2.2) : H21))) (up_V 7 eI))
  (s_law_L3.2 _)
  (ts_nil (en_gnx (Γ := C20) (Γl := C19) (wk := (fun γ : H20 => ((γ.1, γ.2.1, γ.2.2.1, γ.2.2.2.1, γ.2.2.2.2.1, γ.2.2.2.2.2.1, (), γ.2.2.2.2.2.2.2) : H19))) (wn_s (wn_s (wn_s (wn_s (wn_s (wn_s (wn_jV wn_id))))))))))⟩
def z_law_L2 : S_law_L2 := s_law_L2 z_law_L3
abbrev S_law_L1 := {w : H19 → Option (Fl H18 Bool) // ∀ n, TS tab (callF tab (n + 6)) C19 b_law_L1 w (PG C18 (PF ⟨1, 23, [], 1, b_law⟩ eB))}
def s_law_L1 (s_law_L2 : S_law_L2) : S_law_L1 := ⟨_, fun n => (ts_forG (Γ1 := C19) (Γl := C19) (Γb := C20) (wk := (fun γ : H19 => γ)) (ti_keep (Γ := C19) (Γ' := C19) (wk := fun γ : H19 => γ) (it_L (e := eI)) fz_nil (te_rng (te_con eI 0 rfl) (te_con eI 4 rfl))) wn_id (tg_nm (Γ := C19) (Γ' := C20) (up := (fun x (γ : H19) => ((γ.1, γ.2.1, γ.2.2.1, γ.2.2.2.1, γ.2.2.2.2.1, γ.2.2.2.2.2.1, x, γ.2.2.2.2.2.2.2) : H20))) (up_V 6 eI))
  (s_law_L2.2 _)
  (ts_nil (en_gnx (Γ := C19) (Γl := C18) (wk := (fun γ : H19 => ((γ.1, γ.2.1, γ.2.2.1, γ.2.2.2.1, γ.2.2.2.2.1, (), γ.2.2.2.2.2.2) : H18))) (wn_s (wn_s (wn_s (wn_s (wn_s (wn_jV wn_id)))))))))⟩
def z_law_L1 : S_law_L1 := s_law_L1 z_law_L2
abbrev S_law := {g : (List Int) → Option Bool // ∀ n, FS (callF tab (n + 7)) f_law C9 eB (fun a : H9 => g a.1)}
def p_law (s__law_numbers : S__law_numbers) (s__law_take : S__law_take) (s_law_L1 : S_law_L1) : {g : H9 → Option Bool // ∀ n, FS (callF tab (n + 7)) f_law C9 eB g} := ⟨_, fun n => fs_of (fn := ⟨1, 23, [], 1, b_law⟩) (ps := C9) (Γ := C0) (st := fun a : H9 => ((a.1, (), (), (), (), (), (), (), (), (), (), (), (), (), (), (), (), (), (), (), (), (), (), ()) : H0)) rfl rfl rfl rfl rfl (start_rel (fn := ⟨1, 23, [], 1, b_law⟩) (ps := C9) rfl rfl rfl)
  (ts_asgV (Γ1 := C0) (Γ2 := C10) (up := (fun x (γ : H0) => ((γ.1, x, γ.2.2) : H10))) (tm_keep (te_call (fn := ⟨1, 6, [], 1, b__law_numbers⟩) rfl rfl (s__law_numbers.2 _) (ta_cons (te_var (Γ := C0) (e := (eL eI)) (g := (fun γ : H0 => γ.1)) ⟨rg 0 rfl⟩) ta_nil))) (nk0 _) (up_V 1 (eL eI))
  (ts_asgO (Γ1 := C10) (Γ2 := C11) (up := (fun x (γ : H10) => ((γ.1, γ.2.1, x, γ.2.2.2) : H11))) (tm_keep (te_lst rfl (tl_cons (te_con eI 0 rfl) tl_nil))) mt_L (up_O 2 (eL eI))
  (ts_asgV (Γ1 := C11) (Γ2 := C16) (up := (fun x (γ : H11) => ((γ.1, γ.2.1, γ.2.2.1, x, γ.2.2.2.2) : H16))) (tm_io (Γ := C11) (Γ' := C11) (wk := fun γ : H11 => γ) (nk0 _) fz_nil (tx_call (fn := ⟨3, 3, [1], 0, b__law_take⟩) rfl rfl rfl rfl rfl (s__law_take.2 _) (tax_cons rfl (tx_te (te_var (Γ := C11) (e := (eL eI)) (g := (fun γ : H11 => γ.2.1)) ⟨rg 1 rfl⟩)) (tax_io rfl (um_O (Γ := C11) (e := (eL eI)) (g := (fun γ : H11 => γ.2.2.1)) (up := (fun x (γ : H11) => ((γ.1, γ.2.1, x, γ.2.2.2) : H11))) ⟨rg 2 rfl⟩ (up_O 2 (eL eI))) (tax_cons rfl (tx_te (te_con eI 30 rfl)) tax_nil))) (put_cons (um_O (Γ := C11) (e := (eL eI)) (g := (fun γ : H11 => γ.2.2.1)) (up := (fun x (γ : H11) => ((γ.1, γ.2.1, x, γ.2.2.2) : H11))) ⟨rg 2 rfl⟩ (up_O 2 (eL eI))) (put_nil (Γ := C11))))) (nk0 _) (up_V 3 eI)
  (ts_asgV (Γ1 := C16) (Γ2 := C17) (up := (fun x (γ : H16) => ((γ.1, γ.2.1, γ.2.2.1, γ.2.2.2.1, x, γ.2.2.2.2.2) : H17))) (tm_keep (te_con eI 0 rfl)) (nk0 _) (up_V 4 eI)
  (ts_forG (Γ1 := C17) (Γl := C18) (Γb := C19) (wk := (fun γ : H17 => ((γ.1, γ.2.1, γ.2.2.1, γ.2.2.2.1, γ.2.2.2.2.1, (), (), (), (), (), (), (), (), (), (), (), (), (), (), (), (), (), γ.2.2.2.2.2.2.2.2.2.2.2.2.2.2.2.2.2.2.2.2.2.2) : H18))) (ti_keep (Γ := C17) (Γ' := C17) (wk := fun γ : H17 => γ) (it_L (e := eI)) fz_nil (te_rng (te_con eI 0 rfl) (te_con eI 4 rfl))) (wn_s (wn_s (wn_s (wn_s (wn_s (wn_jN (wn_jN (wn_jN (wn_jN (wn_jN (wn_jN (wn_jN (wn_jN (wn_xN (wn_jN (wn_jN (wn_jN (wn_jN (wn_jN (wn_jN (wn_jN (wn_jN wn_id)))))))))))))))))))))) (tg_nm (Γ := C18) (Γ' := C19) (up := (fun x (γ : H18) => ((γ.1, γ.2.1, γ.2.2.1, γ.2.2.2.1, γ.2.2.2.2.1, x, γ.2.2.2.2.2.2) : H19))) (up_V 5 eI))
  (s_law_L1.2 _)
  (ts_ret (tm_keep (te_con eB true rfl)) (ri_fn rfl (fr_imm im_B _ _))))))))⟩
def s_law (s__law_numbers : S__law_numbers) (s__law_take : S__law_take) (s_law_L1 : S_law_L1) : S_law := ⟨fun a0 => (p_law s__law_numbers s__law_take s_law_L1).1 (a0, ()), fun n => (p_law s__law_numbers s__law_take s_law_L1).2 n⟩
def z_law : S_law := s_law z__law_numbers z__law_take z_law_L1
end Cw.J
end

section
namespace Cw.J
open PySem
theorem d_numbers (ns : List Int) : Gv (s__law_numbers.1 ns) fun row => 0 < row.length ∧ row.length ≤ 4000 := by
  unfold s__law_numbers p__law_numbers
  simp only [Option.bind_some, Option.map_some, if_true, id]
  have hp : powO 10 18 = some (10 ^ 18) := rfl
  have hcut : (cutO ns none (some 63)).length ≤ 63 := cutO_len ns 63
  have hL : LIM = 16777216 := rfl
  refine gv_bind (gv_forO (fun i s => s.2.1.length ≤ 60 * i) _ 0 _ (by simp) (fun i x s hx hi hI => ?_) (fun s hI => ?_))
  · simp only [hp, Option.bind_some]
    refine gv_iff (fun h => ?_) (fun h => ?_)
    · rw [rngO_ok (by decide) (by decide) (by decide) (by decide)]
      simp only [Option.bind_some]
      refine gv_en (gv_forB (fun j q => q.2.1.length ≤ 60 * i + j) (rngL 0 60) 0 _ (by simpa using hI) (fun j y q hy hq hj => ?_) (fun q hq => ?_))
      · simp only [rngL_len] at hj
        refine gv_iff (fun h => ?_) (fun h => ?_)
        · exact gv_some (.inr ⟨_, rfl, gv_some (by simp only at hq ⊢; omega)⟩)
        · simp only [modO_ok (show (0 : Int) < 997 by decide), fdivO_r (show (0 : Int) < 997 by decide) (show smallI 997 = true from rfl), Option.bind_some]
          refine gv_bind (gv_eq (appO_ok (by omega)) (gv_some (.inl ⟨_, rfl, by simp; omega⟩)))
      · simp only [rngL_len] at hq
        exact gv_some (by simp only at hq ⊢; omega)
    · rw [rngO_ok (by decide) (by decide) (by decide) (by decide)]
      simp only [Option.bind_some]
      refine gv_bind (gv_forO (fun j q => q.2.1.length ≤ 60 * i + j) (rngL 0 4) 0 _ (by simpa using hI) (fun j y q hy hj hq => ?_) (fun q hq => ?_))
      · simp only [rngL_len] at hj
        simp only [mulO_r (show smallI 48271 = true from rfl), mulO_r (show smallI 69621 = true from rfl), mulO_r (show smallI 16807 = true from rfl), modO_ok (show (0 : Int) < 2147483647 by decide), modO_ok (show (0 : Int) < 2147483629 by decide), Option.bind_some]
        exact gv_bind (gv_eq (appO_ok (by omega)) (gv_some (by simp; omega)))
      · simp only [rngL_len] at hq
        exact gv_some (by simp only at hq ⊢; omega)
  · refine gv_iff (fun h => ?_) (fun h => ?_)
    · exact gv_bind (gv_eq (appO_ok (by omega)) (gv_some ⟨by simp, by simp; omega⟩))
    · refine gv_some ⟨?_, by omega⟩
      simp only [decide_eq_true_eq] at h
      omega
theorem d_draw {row : List Int} {a l : Int} (hr : 0 < row.length) (hr2 : row.length ≤ 4000) (ha : 0 ≤ a) (hl : 0 < l) : Gv (s__law_draw.1 row a l) fun v => 0 ≤ v ∧ v < l := by
  unfold s__law_draw p__law_draw
  simp only [Option.bind_some, Option.map_some, if_true, id]
  have fin : ∀ x : Int, Gv ((modO x l).bind fun x => some x) fun v => 0 ≤ v ∧ v < l := fun x => by
    rw [modO_ok hl]
    exact gv_some ⟨Int.emod_nonneg _ (by omega), Int.emod_lt_of_pos _ hl⟩
  refine gv_iff (fun h => ?_) (fun h => ?_)
  · simp only [decide_eq_true_eq] at h
    obtain ⟨k, rfl⟩ : ∃ k : Nat, a = k := ⟨a.toNat, by omega⟩
    have hk : row[k]? = some (row[k]'(by omega)) := List.getElem?_eq_getElem _
    rw [atI_nat hk]
    exact fin _
  · have hm : 0 ≤ a % (row.length : Int) := Int.emod_nonneg _ (by omega)
    have hm2 : a % (row.length : Int) < row.length := Int.emod_lt_of_pos _ (by omega)
    rw [modO_ok (by omega : (0 : Int) < row.length)]
    simp only [Option.bind_some]
    obtain ⟨k, hk⟩ : ∃ k : Nat, a % (row.length : Int) = k := ⟨(a % (row.length : Int)).toNat, by omega⟩
    rw [hk] at hm2 ⊢
    have hk' : row[k]? = some (row[k]'(by omega)) := List.getElem?_eq_getElem _
    rw [atI_nat hk']
    simp only [Option.bind_some, mulO_r (show smallI 40692 = true from rfl), mulO_r (show smallI 7919 = true from rfl), mulO_r (show smallI 48271 = true from rfl), modO_ok (show (0 : Int) < 2147483399 by decide), modO_ok (show (0 : Int) < 2147483647 by decide)]
    exact fin _
/-- the place that is drawn from next -/
def Sp (sp : List Int) : Prop := ∃ k : Nat, sp = [(k : Int)]
theorem d_take (z1 : S__law_draw) (hz : ∀ {row : List Int} {a l : Int}, 0 < row.length → row.length ≤ 4000 → 0 ≤ a → 0 < l → Gv (z1.1 row a l) fun v => 0 ≤ v ∧ v < l) {row sp : List Int} {l : Int} (hr : 0 < row.length) (hr2 : row.length ≤ 4000) (hs : Sp sp) (hl : 0 < l) : Gv ((s__law_take z1).1 row sp l) fun v => (0 ≤ v.1 ∧ v.1 < l) ∧ Sp v.2.1 := by
  obtain ⟨k, rfl⟩ := hs
  unfold s__law_take p__law_take
  simp only [Option.bind_some, Option.map_some, if_true, id]
  have h0 : L2.atI [(k : Int)] 0 = some (k : Int) := rfl
  have h1 : setO [(k : Int)] 0 ((k : Int) + 1) = some [(k : Int) + 1] := rfl
  have h2 : L2.atI [(k : Int) + 1] 0 = some ((k : Int) + 1) := rfl
  simp only [h0, h1, h2, Option.bind_some]
  refine gv_bind (gv_mono (hz hr hr2 (by omega) hl) fun v hv => gv_some ⟨hv, k + 1, rfl⟩)
def TakeOk (z : S__law_take) : Prop := ∀ {row sp : List Int} {l : Int}, 0 < row.length → row.length ≤ 4000 → Sp sp → 0 < l → Gv (z.1 row sp l) fun v => (0 ≤ v.1 ∧ v.1 < l) ∧ Sp v.2.1
end Cw.J
end

section
namespace Cw.J
open PySem
theorem l_seq (xs : List (List Int)) (a b : Int) : s_is_sequence.1 xs a b = some (decide (a ≤ xs.length) && decide (xs.length ≤ b)) := by
  unfold s_is_sequence p_is_sequence
  simp only [Option.bind_some, Option.map_some, if_true, id, Option.bind_assoc]
  cases decide (a ≤ (xs.length : Int)) <;> rfl
theorem l_seq2 (xs : List Int) (a b : Int) : s_is_sequence_2.1 xs a b = some (decide (a ≤ xs.length) && decide (xs.length ≤ b)) := by
  unfold s_is_sequence_2 p_is_sequence_2
  simp only [Option.bind_some, Option.map_some, if_true, id, Option.bind_assoc]
  cases decide (a ≤ (xs.length : Int)) <;> rfl
theorem l_req (k : Int) : z_require.1 true k = some () := rfl
def BtOk (z : S_is_between) : Prop := ∀ x a b, z.1 x a b = some (decide (a ≤ x) && decide (x ≤ b))
theorem l_isbt (z : S_is_integer) (hz : ∀ x, z.1 x = some true) : BtOk (s_is_between z) := by
  intro x a b
  unfold s_is_between p_is_between
  simp only [Option.bind_some, Option.map_some, if_true, id, Option.bind_assoc, hz]
  cases decide (a ≤ x) <;> rfl
section
variable {α : Type}
def up (m : Int → α) (i : Int) (v : α) : Int → α := fun y => if y = i then v else m y
def li (m : Int → α) : List α := [m 0, m 1, m 2]
theorem li_set {m : Int → α} {i : Int} {v : α} (hi : K3 i) : setO (li m) i v = some (li (up m i v)) := by
  rcases hi with rfl | rfl | rfl <;> rfl
theorem li_at {m : Int → α} {i : Int} (hi : K3 i) : L2.atI (li m) i = some (m i) := by
  rcases hi with rfl | rfl | rfl <;> rfl
theorem up_eq (m : Int → α) (i : Int) (v : α) : up m i v i = v := by unfold up; rw [if_pos rfl]
end
structure Sok (ships : List (List Int)) (c h : Int → Int) : Prop where
  eq : ships = [[c 0, h 0], [c 1, h 1], [c 2, h 2]]
  bd : ∀ k, K3 k → (0 ≤ c k ∧ c k ≤ 3) ∧ 1 ≤ h k ∧ h k ≤ 4
theorem Sok.at_ {ships : List (List Int)} {c h : Int → Int} (H : Sok ships c h) {k : Int} (hk : K3 k) : L2.atI ships k = some [c k, h k] := by
  rw [H.eq]
  rcases hk with rfl | rfl | rfl <;> rfl
def ShOk (z : S_are_ships) : Prop := ∀ {ships : List (List Int)} {c h : Int → Int}, Sok ships c h → z.1 ships = some true
theorem l_ship (z1 : S_is_sequence_2) (z2 : S_is_between) (h1 : ∀ xs a b, z1.1 xs a b = some (decide (a ≤ (xs.length : Int)) && decide ((xs.length : Int) ≤ b))) (h2 : BtOk z2) {x y : Int} (hx : 0 ≤ x ∧ x ≤ 3) (hy : 1 ≤ y ∧ y ≤ 4) : (s_is_ship z1 z2).1 [x, y] = some true := by
  unfold s_is_ship p_is_ship
  have e : (decide ((2 : Int) ≤ (([x, y] : List Int).length : Int)) && decide ((([x, y] : List Int).length : Int) ≤ 2)) = true := rfl
  have h2' : ∀ x a b, z2.1 x a b = some (decide (a ≤ x) && decide (x ≤ b)) := h2
  simp only [Option.bind_some, Option.map_some, if_true, id, Option.bind_assoc, h1, e, uncons, unnil, h2', decide_eq_true hx.1, decide_eq_true (show x ≤ 200 by omega), decide_eq_true hy.1, decide_eq_true (show y ≤ 50 by omega), Bool.not_true, Bool.false_eq_true, if_false, Bool.and_self]
theorem l_ships (z1 : S_is_sequence) (z2 : S_is_ship) (h1 : ∀ xs a b, z1.1 xs a b = some (decide (a ≤ (xs.length : Int)) && decide ((xs.length : Int) ≤ b))) (h2 : ∀ {x y : Int}, 0 ≤ x ∧ x ≤ 3 → 1 ≤ y ∧ y ≤ 4 → z2.1 [x, y] = some true) : ShOk (s_are_ships z1 z2) := by
  intro ships c h H
  unfold s_are_ships p_are_ships
  simp only [Option.bind_some, Option.map_some, if_true, id, Option.bind_assoc, h1]
  obtain ⟨b0, b1⟩ := H.bd 0 (.inl rfl)
  obtain ⟨c0, c1⟩ := H.bd 1 (.inr (.inl rfl))
  obtain ⟨d0, d1⟩ := H.bd 2 (.inr (.inr rfl))
  rw [H.eq]
  simp only [cmpO, cmpN, h2 b0 b1, h2 c0 c1, h2 d0 d1, Option.bind_some, Option.map_some]
  rfl
def N3 (n : Int) : Prop := n = 1 ∨ n = 2 ∨ n = 3
def RqOk (z : S_require_quay) : Prop := ∀ {ships : List (List Int)} {c h : Int → Int} {n : Int}, Sok ships c h → N3 n → z.1 ships n = some ()
theorem l_rq (z1 : S_require) (z2 : S_are_ships) (z3 : S_is_between) (h1 : ∀ k, z1.1 true k = some ()) (h2 : ShOk z2) (h3 : BtOk z3) : RqOk (s_require_quay z1 z2 z3) := by
  intro ships c h n H hn
  unfold s_require_quay p_require_quay
  have h3' : z3.1 n 1 3 = some true := by
    rw [h3]
    rcases hn with rfl | rfl | rfl <;> rfl
  simp only [Option.bind_some, Option.map_some, if_true, id, Option.bind_assoc, h1, h2 H, h3']
def kl (c : Int → Int) (x y : Int) : Prop := c x < c y ∨ (c x = c y ∧ x < y)
structure Tn (c : Int → Int) (i j k : Int) : Prop where
  mem : [i, j, k] ∈ prm
  ij : kl c i j
  jk : kl c j k
  srt : sortO (ltL fun a b : Int => decide (a < b)) (fun x => !x.isEmpty) [[c 0, 0], [c 1, 1], [c 2, 2]] = some [[c i, i], [c j, j], [c k, k]]
def p3 (x y z k : Int) : Int := if k = 0 then x else if k = 1 then y else z
def tnb (a b c : Int) : List Int → Bool
  | [i, j, k] => (decide (p3 a b c i < p3 a b c j) || (decide (p3 a b c i = p3 a b c j) && decide (i < j))) && (decide (p3 a b c j < p3 a b c k) || (decide (p3 a b c j = p3 a b c k) && decide (j < k))) && (sortO (ltL fun a b : Int => decide (a < b)) (fun x => !x.isEmpty) [[a, 0], [b, 1], [c, 2]] == some [[p3 a b c i, i], [p3 a b c j, j], [p3 a b c k, k]])
  | _ => false
theorem tn_all : ((rngL 0 4).all fun a => (rngL 0 4).all fun b => (rngL 0 4).all fun c => prm.any (tnb a b c)) = true := by decide +kernel
theorem tn_ex {c : Int → Int} (h : ∀ x, K3 x → 0 ≤ c x ∧ c x ≤ 3) : ∃ i j k, Tn c i j k := by
  have m : ∀ x, K3 x → c x ∈ rngL 0 4 := fun x hx => mem_rng.mpr (by have := h x hx; omega)
  have q := List.all_eq_true.mp (List.all_eq_true.mp (List.all_eq_true.mp tn_all _ (m 0 (.inl rfl))) _ (m 1 (.inr (.inl rfl)))) _ (m 2 (.inr (.inr rfl)))
  obtain ⟨o, ho, e⟩ := List.any_eq_true.mp q
  have hp : ∀ x, K3 x → p3 (c 0) (c 1) (c 2) x = c x := by
    intro x hx
    rcases hx with rfl | rfl | rfl <;> rfl
  have ho' := ho
  simp only [prm, List.mem_cons, List.not_mem_nil, or_false] at ho
  have fin : ∀ i j k, [i, j, k] ∈ prm → K3 i → K3 j → K3 k → tnb (c 0) (c 1) (c 2) [i, j, k] = true → Tn c i j k := by
    intro i j k hm hi hj hk e
    simp only [tnb, Bool.and_eq_true, Bool.or_eq_true, decide_eq_true_eq, beq_iff_eq, hp i hi, hp j hj, hp k hk] at e
    exact ⟨hm, e.1.1, e.1.2, e.2⟩
  rcases ho with rfl | rfl | rfl | rfl | rfl | rfl <;> exact ⟨_, _, _, fin _ _ _ ho' (by unfold K3; omega) (by unfold K3; omega) (by unfold K3; omega) e⟩
theorem prm3 {i j k : Int} (h : [i, j, k] ∈ prm) : K3 i ∧ K3 j ∧ K3 k ∧ i ≠ j ∧ i ≠ k ∧ j ≠ k := by
  unfold K3
  simp only [prm, List.mem_cons, List.not_mem_nil, or_false, List.cons.injEq, and_true] at h
  omega
theorem l_turn {ships : List (List Int)} {c h : Int → Int} {i j k : Int} (H : Sok ships c h) (t : Tn c i j k) : s_turn_of.1 ships = some [i, j, k] := by
  unfold s_turn_of p_turn_of
  simp only [Option.bind_some, Option.map_some, if_true, id, Option.bind_assoc]
  rw [show rngO 0 ((ships.length : Nat) : Int) = some [0, 1, 2] by rw [H.eq]; rfl]
  simp only [Option.bind_some]
  have a0 : ∀ x y : Int, L2.atI [x, y] 0 = some x := fun _ _ => rfl
  rw [cmpO3 (x := [c 0, 0]) (y := [c 1, 1]) (z := [c 2, 2]) ?_ ?_ ?_]
  rotate_left
  · simp only [H.at_ (.inl rfl), Option.bind_some, a0]
  · simp only [H.at_ (.inr (.inl rfl)), Option.bind_some, a0]
  · simp only [H.at_ (.inr (.inr rfl)), Option.bind_some, a0]
  simp only [Option.bind_some, t.srt]
  rw [cmpO3 (x := i) (y := j) (z := k) ?_ ?_ ?_]
  rotate_left
  · rfl
  · rfl
  · rfl
  rfl
end Cw.J
end

section
namespace Cw.J
open PySem
def sA (c : Int → Int) (i : Int) : Int := max (c i) 0
def s1J (c h : Int → Int) (i j : Int) : Int := max (c j) (sA c i + h i)
def s1K (c h : Int → Int) (i j k : Int) : Int := max (c k) (s1J c h i j + h j)
def s2K (c h : Int → Int) (i j k : Int) : Int := max (c k) (min (sA c i + h i) (sA c j + h j))
def hs (c h : Int → Int) (n i j k : Int) : Int → Int := up (up (up (fun _ => 0) i (sA c i)) j (if n = 1 then s1J c h i j else sA c j)) k (if n = 1 then s1K c h i j k else if n = 2 then s2K c h i j k else sA c k)
section
variable {ships : List (List Int)} {c h : Int → Int} {i j k : Int}
theorem idx1 (x : Int) : idxI [x] x = some 0 := by
  unfold idxI
  simp
theorem hb1 (H : Sok ships c h) (m : [i, j, k] ∈ prm) : s_hours_begun.1 ships [i, j, k] 1 = some (li (hs c h 1 i j k)) := by
  obtain ⟨hi, hj, hk, hij, hik, hjk⟩ := prm3 m
  unfold s_hours_begun p_hours_begun
  have hl : ((ships.length : Nat) : Int) = 3 := by rw [H.eq]; rfl
  have r1 : repO [(0 : Int)] 3 = some (li fun _ => 0) := rfl
  have r2 : repO [(0 : Int)] 1 = some [0] := rfl
  have mn : ∀ x : Int, minI [x] = some x := fun _ => rfl
  have a0 : ∀ x : Int, L2.atI [x] 0 = some x := fun _ => rfl
  have t0 : ∀ x v : Int, setO [x] 0 v = some [v] := fun _ _ => rfl
  simp only [Option.bind_some, Option.map_some, if_true, id, Option.bind_assoc, hl, r1, r2, forO_c, forO_n, H.at_ hi, H.at_ hj, H.at_ hk, uncons, unnil, mn, idx1, a0, t0, li_set hi, li_set hj, li_set hk, li_at hi, li_at hj, li_at hk, up_eq]
  rfl
theorem hb1b (H : Sok ships c h) (m : [i, j, k] ∈ prm) : s_hours_begun_2.1 ships [i, j, k] 1 = some (li (hs c h 1 i j k)) := by
  obtain ⟨hi, hj, hk, hij, hik, hjk⟩ := prm3 m
  unfold s_hours_begun_2 p_hours_begun_2
  have hl : ((ships.length : Nat) : Int) = 3 := by rw [H.eq]; rfl
  have r1 : repO [(0 : Int)] 3 = some (li fun _ => 0) := rfl
  have r2 : repO [(0 : Int)] 1 = some [0] := rfl
  have mn : ∀ x : Int, minI [x] = some x := fun _ => rfl
  have a0 : ∀ x : Int, L2.atI [x] 0 = some x := fun _ => rfl
  have t0 : ∀ x v : Int, setO [x] 0 v = some [v] := fun _ _ => rfl
  simp only [Option.bind_some, Option.map_some, if_true, id, Option.bind_assoc, hl, r1, r2, forO_c, forO_n, H.at_ hi, H.at_ hj, H.at_ hk, uncons, unnil, mn, idx1, a0, t0, li_set hi, li_set hj, li_set hk, li_at hi, li_at hj, li_at hk, up_eq]
  rfl
theorem min_pos {x : Int} (h : 1 ≤ x) : min x 0 = 0 := by omega
theorem hb2 (H : Sok ships c h) (m : [i, j, k] ∈ prm) : s_hours_begun.1 ships [i, j, k] 2 = some (li (hs c h 2 i j k)) := by
  obtain ⟨hi, hj, hk, hij, hik, hjk⟩ := prm3 m
  unfold s_hours_begun p_hours_begun
  have hl : ((ships.length : Nat) : Int) = 3 := by rw [H.eq]; rfl
  have r1 : repO [(0 : Int)] 3 = some (li fun _ => 0) := rfl
  have r2 : repO [(0 : Int)] 2 = some [0, 0] := rfl
  have mn : ∀ x y : Int, minI [x, y] = some (min x y) := fun _ _ => rfl
  have i0 : idxI [0, 0] 0 = some 0 := rfl
  have a0 : ∀ x y : Int, L2.atI [x, y] 0 = some x := fun _ _ => rfl
  have a1 : ∀ x y : Int, L2.atI [x, y] 1 = some y := fun _ _ => rfl
  have t0 : ∀ x y v : Int, setO [x, y] 0 v = some [v, y] := fun _ _ _ => rfl
  have t1 : ∀ x y v : Int, setO [x, y] 1 v = some [x, v] := fun _ _ _ => rfl
  have hp : 1 ≤ max (c i) 0 + h i := by have := H.bd i hi; omega
  have i1 : idxI [max (c i) 0 + h i, 0] 0 = some 1 := by
    unfold idxI
    rw [if_pos (by simp), List.idxOf_cons]
    rw [show (max (c i) 0 + h i == 0) = false from beq_eq_false_iff_ne.mpr (by omega)]
    simp
  obtain ⟨b, ib, ab, fr, sb⟩ : ∃ b, idxI [max (c i) 0 + h i, max (c j) 0 + h j] (min (max (c i) 0 + h i) (max (c j) 0 + h j)) = some b ∧ L2.atI [max (c i) 0 + h i, max (c j) 0 + h j] b = some (min (max (c i) 0 + h i) (max (c j) 0 + h j)) ∧ ∃ fr, setO [max (c i) 0 + h i, max (c j) 0 + h j] b (max (c k) (min (max (c i) 0 + h i) (max (c j) 0 + h j)) + h k) = some fr := by
    generalize max (c i) 0 + h i = x
    generalize max (c j) 0 + h j = y
    generalize c k = z
    generalize h k = w
    by_cases hxy : x ≤ y
    · rw [show min x y = x by omega]
      exact ⟨0, by unfold idxI; simp, rfl, _, rfl⟩
    · rw [show min x y = y by omega]
      refine ⟨1, ?_, rfl, _, rfl⟩
      unfold idxI
      rw [if_pos (by simp), List.idxOf_cons, show (x == y) = false from beq_eq_false_iff_ne.mpr (by omega)]
      simp
  simp only [Option.bind_some, Option.map_some, if_true, id, Option.bind_assoc, hl, r1, r2, forO_c, forO_n, H.at_ hi, H.at_ hj, H.at_ hk, uncons, unnil, mn, i0, a0, a1, t0, t1, li_set hi, li_set hj, li_set hk, li_at hi, li_at hj, li_at hk, up_eq, show min (0 : Int) 0 = 0 from rfl, min_pos hp, i1, ib, ab, sb]
  rfl
theorem hb3 (H : Sok ships c h) (m : [i, j, k] ∈ prm) : s_hours_begun.1 ships [i, j, k] 3 = some (li (hs c h 3 i j k)) := by
  obtain ⟨hi, hj, hk, hij, hik, hjk⟩ := prm3 m
  unfold s_hours_begun p_hours_begun
  have hl : ((ships.length : Nat) : Int) = 3 := by rw [H.eq]; rfl
  have r1 : repO [(0 : Int)] 3 = some (li fun _ => 0) := rfl
  have mn : ∀ x y z : Int, minI [x, y, z] = some (min (min x y) z) := fun _ _ _ => rfl
  have i0 : idxI [0, 0, 0] 0 = some 0 := rfl
  have a0 : ∀ x y z : Int, L2.atI [x, y, z] 0 = some x := fun _ _ _ => rfl
  have a1 : ∀ x y z : Int, L2.atI [x, y, z] 1 = some y := fun _ _ _ => rfl
  have a2 : ∀ x y z : Int, L2.atI [x, y, z] 2 = some z := fun _ _ _ => rfl
  have t0 : ∀ x y z v : Int, setO [x, y, z] 0 v = some [v, y, z] := fun _ _ _ _ => rfl
  have t1 : ∀ x y z v : Int, setO [x, y, z] 1 v = some [x, v, z] := fun _ _ _ _ => rfl
  have t2 : ∀ x y z v : Int, setO [x, y, z] 2 v = some [x, y, v] := fun _ _ _ _ => rfl
  have hp : 1 ≤ max (c i) 0 + h i := by have := H.bd i hi; omega
  have hq : 1 ≤ max (c j) 0 + h j := by have := H.bd j hj; omega
  have hr : 1 ≤ min (max (c i) 0 + h i) (max (c j) 0 + h j) := by omega
  have i1 : idxI [max (c i) 0 + h i, 0, 0] 0 = some 1 := by
    unfold idxI
    rw [if_pos (by simp), List.idxOf_cons]
    rw [show (max (c i) 0 + h i == 0) = false from beq_eq_false_iff_ne.mpr (by omega)]
    simp
  have i2 : idxI [max (c i) 0 + h i, max (c j) 0 + h j, 0] 0 = some 2 := by
    unfold idxI
    rw [if_pos (by simp), List.idxOf_cons, List.idxOf_cons]
    rw [show (max (c i) 0 + h i == 0) = false from beq_eq_false_iff_ne.mpr (by omega), show (max (c j) 0 + h j == 0) = false from beq_eq_false_iff_ne.mpr (by omega)]
    simp
  have z1 : minI (li fun _ => (0 : Int)) = some 0 := rfl
  have z2 : idxI (li fun _ => (0 : Int)) 0 = some 0 := rfl
  have z3 : L2.atI (li fun _ => (0 : Int)) 0 = some 0 := rfl
  have z4 : ∀ v, setO (li fun _ => (0 : Int)) 0 v = some [v, 0, 0] := fun _ => rfl
  simp only [Option.bind_some, Option.map_some, if_true, id, Option.bind_assoc, hl, r1, z1, z2, z3, z4, forO_c, forO_n, H.at_ hi, H.at_ hj, H.at_ hk, uncons, unnil, mn, a1, a2, t1, t2, li_set hi, li_set hj, li_set hk, li_at hi, li_at hj, li_at hk, up_eq, show min (0 : Int) 0 = 0 from rfl, min_pos hp, min_pos hr, i1, i2]
  rfl
end
end Cw.J
end

section
namespace Cw.J
open PySem
theorem o_cases {α : Type} (o : Option α) : o = none ∨ ∃ v, o = some v := by cases o <;> simp
theorem b_cases (b : Bool) : b = true ∨ b = false := by cases b <;> simp
def lie (m : Int → Option Int) (h : Int → Int) (t y : Int) : Bool := match m y with
  | some v => decide (v ≤ t) && decide (t < v + h y)
  | none => false
def ahd (m : Int → Option Int) (c : Int → Int) (x y : Int) : Bool := (m y).isNone && ltL (fun a b : Int => decide (a < b)) [c y, y] [c x, x]
def cnt (p : Int → Bool) : Int := ((([0, 1, 2] : List Int).filter p).length : Int)
def cnd (m : Int → Option Int) (c h : Int → Int) (n t x : Int) : Bool := (m x).isNone && (decide (c x ≤ t) && (decide (cnt (lie m h t) < n) && decide (cnt (ahd m c x) = 0)))
theorem k012 {y : Int} (h : y ∈ ([0, 1, 2] : List Int)) : K3 y := by
  simpa [K3] using h
theorem l6 (script : (List Int)) (row : (List Int)) (spot : (List Int)) (part : Int) (number : Int) (a : Int) (b : Int) (c : Int) (hours : (List Int)) (ships : (List (List Int))) (berths : Int) (clock : Int) {cm h : Int → Int} {x : Int} {m : Int → Option Int} (H : Sok ships cm h) (hx : K3 x) :
    s_law_L6.1 (script, row, spot, part, number, a, b, c, hours, ships, berths, (), (), li m, clock, (), (), (), [cm x, x], (), (), (), (), ()) = some (script, row, spot, part, number, a, b, c, hours, ships, berths, (), (), li (if cnd m cm h berths clock x then up m x (some clock) else m), clock, (), (), (), (), (), (), (), (), ()) := by
  unfold s_law_L6
  have r3 : rngO 0 3 = some [0, 1, 2] := rfl
  have o1 : L2.atI [cm x, x] 1 = some x := rfl
  have p0 : ∀ u v : Int, L2.atI [u, v] 0 = some u := fun _ _ => rfl
  have p1 : ∀ u v : Int, L2.atI [u, v] 1 = some v := fun _ _ => rfl
  simp only [Option.bind_some, Option.map_some, if_true, id, Option.bind_assoc, r3, o1]
  rw [cmpO_filter (lie m h clock) (by decide) ?_]
  rotate_left
  · intro y hy
    have hk := k012 hy
    simp only [li_at hk, Option.bind_some, H.at_ hk, p1, lie]
    rcases o_cases (m y) with hm | ⟨v, hm⟩
    · simp only [hm]; rfl
    · simp only [hm, Option.isSome_some, if_true, Option.bind_some]
      by_cases hv : v ≤ clock
      · simp only [decide_eq_true hv, if_true, Option.bind_some, Bool.true_and]
        cases decide (clock < v + h y) <;> rfl
      · simp only [decide_eq_false hv, Bool.false_eq_true, if_false, Option.bind_some, Bool.false_and]
  simp only [Option.bind_some]
  rw [cmpO_filter (ahd m cm x) (by decide) ?_]
  rotate_left
  · intro y hy
    have hk := k012 hy
    simp only [li_at hk, Option.bind_some, H.at_ hk, H.at_ hx, p0, ahd]
    rcases o_cases (m y) with hm | ⟨v, hm⟩
    · simp only [hm, Option.isNone_none, if_true, Option.bind_some, Bool.true_and]
      rcases b_cases (ltL (fun a b : Int => decide (a < b)) [cm y, y] [cm x, x]) with e | e <;> rw [e] <;> rfl
    · simp only [hm]; rfl
  simp only [Option.bind_some, li_at hx, H.at_ hx, p0, li_set hx]
  unfold cnd cnt
  rcases o_cases (m x) with hm | ⟨v, hm⟩
  · simp only [hm, Option.isNone_none, if_true, Bool.true_and]
    rcases b_cases (decide (cm x ≤ clock)) with e | e
    · simp only [e, if_true, Bool.true_and]
      rcases b_cases (decide (((([0, 1, 2] : List Int).filter (lie m h clock)).length : Int) < berths)) with e | e
      · simp only [e, if_true, Bool.true_and, Option.bind_some]
        rcases b_cases (decide (((([0, 1, 2] : List Int).filter (ahd m cm x)).length : Int) = 0)) with e | e <;> simp only [e, if_true, Bool.false_eq_true, if_false, Option.bind_some]
      · simp only [e, Bool.false_eq_true, if_false, Option.bind_some, Bool.false_and]
    · simp only [e, Bool.false_eq_true, if_false, Option.bind_some, Bool.false_and]
  · simp only [hm, Option.isNone_some, Bool.false_eq_true, if_false, Option.bind_some, Bool.false_and]
def Mb (s d : Int → Int) (t : Int) : Int → Option Int := fun y => if s y < t + d y then some (s y) else none
theorem m_step {s d : Int → Int} {t x : Int} {cond : Bool} (hd : d x = 0) (hc : cond = decide (s x = t)) : (if cond then up (Mb s d t) x (some t) else Mb s d t) = Mb s (up d x 1) t := by
  subst hc
  funext y
  by_cases hy : y = x
  · subst hy
    by_cases hs : s y = t
    · rw [decide_eq_true hs]
      simp only [if_true, up, Mb]
      rw [if_pos (by omega), hs]
    · rw [decide_eq_false hs]
      simp only [Bool.false_eq_true, if_false, up, Mb, if_true, hd]
      by_cases h : s y < t
      · rw [if_pos (by omega), if_pos (by omega)]
      · rw [if_neg (by omega), if_neg (by omega)]
  · cases decide (s x = t) <;> simp only [if_true, Bool.false_eq_true, if_false, up, Mb, if_neg hy]
def b2 (b : Bool) : Int := if b then 1 else 0
theorem cnt_eq (p : Int → Bool) : cnt p = b2 (p 0) + b2 (p 1) + b2 (p 2) := by
  unfold cnt
  cases h0 : p 0 <;> cases h1 : p 1 <;> cases h2 : p 2 <;> simp [h0, h1, h2, b2]
theorem cnt_prm (p : Int → Bool) {i j k : Int} (m : [i, j, k] ∈ prm) : cnt p = b2 (p i) + b2 (p j) + b2 (p k) := by
  rw [cnt_eq]
  simp only [prm, List.mem_cons, List.not_mem_nil, or_false, List.cons.injEq, and_true] at m
  rcases m with ⟨rfl, rfl, rfl⟩ | ⟨rfl, rfl, rfl⟩ | ⟨rfl, rfl, rfl⟩ | ⟨rfl, rfl, rfl⟩ | ⟨rfl, rfl, rfl⟩ | ⟨rfl, rfl, rfl⟩ <;> omega
theorem b2_of {b : Bool} {P : Prop} (h : b = true ↔ P) : (b2 b = 1 ∧ P) ∨ (b2 b = 0 ∧ ¬P) := by
  cases b with
  | true => exact .inl ⟨rfl, h.mp rfl⟩
  | false => exact .inr ⟨rfl, fun hp => Bool.false_ne_true (h.mpr hp)⟩
theorem lie_iff {s d h : Int → Int} {t y : Int} : lie (Mb s d t) h t y = true ↔ s y < t + d y ∧ s y ≤ t ∧ t < s y + h y := by
  unfold lie Mb
  by_cases hy : s y < t + d y
  · simp only [if_pos hy, Bool.and_eq_true, decide_eq_true_eq]
    omega
  · simp only [if_neg hy]
    exact ⟨fun h => (nomatch h), fun h => absurd h.1 hy⟩
theorem ahd_iff {s d c : Int → Int} {t x y : Int} : ahd (Mb s d t) c x y = true ↔ ¬s y < t + d y ∧ kl c y x := by
  have e : ltL (fun a b : Int => decide (a < b)) [c y, y] [c x, x] = true ↔ kl c y x := by
    unfold kl
    simp only [ltL]
    by_cases h1 : c y = c x
    · rw [h1]
      simp only [beq_self_eq_true, if_true]
      by_cases h2 : y = x
      · subst h2
        simp
      · rw [if_neg (by simpa using h2)]
        simp
    · rw [if_neg (by simpa using h1)]
      simp [h1]
  unfold ahd Mb
  by_cases hy : s y < t + d y
  · simp only [if_pos hy, Option.isNone_some, Bool.false_and]
    exact ⟨fun h => (nomatch h), fun h => absurd hy h.1⟩
  · simp only [if_neg hy, Option.isNone_none, Bool.true_and]
    exact ⟨fun h => ⟨hy, e.mp h⟩, fun h => e.mpr h.2⟩
theorem cnd_iff {s d c h : Int → Int} {n t x i j k : Int} (m : [i, j, k] ∈ prm) (hd : d x = 0)
    (w : ∀ li lj lk ai aj ak : Int, ((li = 1 ∧ s i < t + d i ∧ s i ≤ t ∧ t < s i + h i) ∨ (li = 0 ∧ ¬(s i < t + d i ∧ s i ≤ t ∧ t < s i + h i))) → ((lj = 1 ∧ s j < t + d j ∧ s j ≤ t ∧ t < s j + h j) ∨ (lj = 0 ∧ ¬(s j < t + d j ∧ s j ≤ t ∧ t < s j + h j))) → ((lk = 1 ∧ s k < t + d k ∧ s k ≤ t ∧ t < s k + h k) ∨ (lk = 0 ∧ ¬(s k < t + d k ∧ s k ≤ t ∧ t < s k + h k))) → ((ai = 1 ∧ ¬s i < t + d i ∧ kl c i x) ∨ (ai = 0 ∧ ¬(¬s i < t + d i ∧ kl c i x))) → ((aj = 1 ∧ ¬s j < t + d j ∧ kl c j x) ∨ (aj = 0 ∧ ¬(¬s j < t + d j ∧ kl c j x))) → ((ak = 1 ∧ ¬s k < t + d k ∧ kl c k x) ∨ (ak = 0 ∧ ¬(¬s k < t + d k ∧ kl c k x))) → ((¬s x < t ∧ c x ≤ t ∧ li + lj + lk < n ∧ ai + aj + ak = 0) ↔ s x = t)) : cnd (Mb s d t) c h n t x = decide (s x = t) := by
  have W := w _ _ _ _ _ _ (b2_of lie_iff) (b2_of lie_iff) (b2_of lie_iff) (b2_of ahd_iff) (b2_of ahd_iff) (b2_of ahd_iff)
  rw [Bool.eq_iff_iff, decide_eq_true_iff, ← W]
  unfold cnd
  rw [cnt_prm _ m, cnt_prm _ m]
  have e : (Mb s d t x).isNone = true ↔ ¬s x < t := by
    unfold Mb
    rw [hd, Int.add_zero]
    by_cases hx : s x < t
    · rw [if_pos hx]; simp [hx]
    · rw [if_neg hx]; simp [hx]
  simp only [Bool.and_eq_true, decide_eq_true_eq, e]
end Cw.J
end

section
namespace Cw.J
open PySem
section
variable {c h : Int → Int} {i j k n t : Int}
theorem hs_i (m : [i, j, k] ∈ prm) : hs c h n i j k i = max (c i) 0 := by
  obtain ⟨_, _, _, hij, hik, hjk⟩ := prm3 m
  unfold hs up
  rw [if_neg hik, if_neg hij, if_pos rfl]; rfl
theorem hs_j (m : [i, j, k] ∈ prm) : hs c h n i j k j = if n = 1 then s1J c h i j else max (c j) 0 := by
  obtain ⟨_, _, _, hij, hik, hjk⟩ := prm3 m
  unfold hs up
  rw [if_neg hjk, if_pos rfl]; rfl
theorem hs_k (m : [i, j, k] ∈ prm) : hs c h n i j k k = if n = 1 then s1K c h i j k else if n = 2 then s2K c h i j k else max (c k) 0 := by
  unfold hs up
  rw [if_pos rfl]; rfl
/-- the starts, as they stand -/
structure Sts (c h s : Int → Int) (n i j k : Int) : Prop where
  ci : 0 ≤ c i
  cj : 0 ≤ c j
  ck : 0 ≤ c k
  hi : 1 ≤ h i
  hj : 1 ≤ h j
  hk : 1 ≤ h k
  si : s i = c i
  sj : (n = 1 ∧ s j = max (c j) (s i + h i)) ∨ (n ≠ 1 ∧ s j = c j)
  sk : (n = 1 ∧ s k = max (c k) (s j + h j)) ∨ (n = 2 ∧ s k = max (c k) (min (s i + h i) (s j + h j))) ∨ (n = 3 ∧ s k = c k)
  ij : c i < c j ∨ (c i = c j ∧ i < j)
  jk : c j < c k ∨ (c j = c k ∧ j < k)
  n3 : N3 n
theorem sts_of {ships : List (List Int)} (H : Sok ships c h) (T : Tn c i j k) (hn : N3 n) : Sts c h (hs c h n i j k) n i j k := by
  obtain ⟨ki, kj, kk, hij, hik, hjk⟩ := prm3 T.mem
  have a := H.bd i ki
  have b := H.bd j kj
  have d := H.bd k kk
  have e1 : hs c h n i j k i = c i := by rw [hs_i T.mem]; omega
  have e2 := hs_j (c := c) (h := h) (n := n) T.mem
  have e3 := hs_k (c := c) (h := h) (n := n) T.mem
  refine ⟨a.1.1, b.1.1, d.1.1, a.2.1, b.2.1, d.2.1, e1, ?_, ?_, T.ij, T.jk, hn⟩
  · rw [e1]
    rcases hn with rfl | rfl | rfl
    · exact .inl ⟨rfl, by rw [e2, if_pos rfl]; unfold s1J sA; omega⟩
    · exact .inr ⟨by decide, by rw [e2, if_neg (by decide)]; omega⟩
    · exact .inr ⟨by decide, by rw [e2, if_neg (by decide)]; omega⟩
  · rw [e1]
    rcases hn with rfl | rfl | rfl
    · refine .inl ⟨rfl, ?_⟩
      rw [e3, if_pos rfl, e2, if_pos rfl]; rfl
    · refine .inr (.inl ⟨rfl, ?_⟩)
      rw [e3, if_neg (by decide), if_pos rfl, e2, if_neg (by decide)]; unfold s2K sA; omega
    · refine .inr (.inr ⟨rfl, ?_⟩)
      rw [e3, if_neg (by decide), if_neg (by decide)]; omega
def d0 : Int → Int := fun _ => 0
def d1 (i : Int) : Int → Int := up d0 i 1
def d2 (i j : Int) : Int → Int := up (d1 i) j 1
theorem Sts.o1 {s : Int → Int} (S : Sts c h s n i j k) : s i ≤ s j := by
  have a := S.hi; have b := S.si; have e := S.ij
  rcases S.sj with ⟨_, q⟩ | ⟨_, q⟩ <;> omega
theorem Sts.o2 {s : Int → Int} (S : Sts c h s n i j k) : s j ≤ s k := by
  have a := S.hi; have b := S.hj; have e := S.ij; have e2 := S.jk; have e3 := S.si
  rcases S.sk with ⟨_, q⟩ | ⟨q0, q⟩ | ⟨q0, q⟩
  · omega
  · rcases S.sj with ⟨q1, _⟩ | ⟨_, q2⟩ <;> omega
  · rcases S.sj with ⟨q1, _⟩ | ⟨_, q2⟩ <;> omega
theorem kl_irr {x : Int} : ¬kl c x x := by unfold kl; omega
theorem kl_as {x y : Int} (h : kl c x y) : ¬kl c y x := by unfold kl at *; omega
theorem kl_tr {x y z : Int} (h : kl c x y) (g : kl c y z) : kl c x z := by unfold kl at *; omega
theorem z0 {a : Int} {P : Prop} (h : (a = 1 ∧ P) ∨ (a = 0 ∧ ¬P)) (q : ¬P) : a = 0 := h.elim (fun x => absurd x.2 q) (fun x => x.1)
theorem z1 {a : Int} {P Q : Prop} (h : (a = 1 ∧ P ∧ Q) ∨ (a = 0 ∧ ¬(P ∧ Q))) (q : Q) : (a = 1 ∧ P) ∨ (a = 0 ∧ ¬P) := h.elim (fun x => .inl ⟨x.1, x.2.1⟩) (fun x => .inr ⟨x.1, fun p => x.2 ⟨p, q⟩⟩)
theorem z2 {a : Int} {P : Prop} (h : (a = 1 ∧ P) ∨ (a = 0 ∧ ¬P)) : 0 ≤ a ∧ a ≤ 1 := by rcases h with h | h <;> omega
theorem z3 {a : Int} {P : Prop} (h : (a = 1 ∧ P) ∨ (a = 0 ∧ ¬P)) (q : a = 0) : ¬P := h.elim (fun x => by omega) (fun x => x.2)
theorem cI {s : Int → Int} (m : [i, j, k] ∈ prm) (S : Sts c h s n i j k) : cnd (Mb s d0 t) c h n t i = decide (s i = t) := by
  refine cnd_iff m rfl fun li lj lk ai aj ak h1 h2 h3 h4 h5 h6 => ?_
  have a4 := z0 h4 fun q => kl_irr q.2
  have a5 := z0 h5 fun q => kl_as S.ij q.2
  have a6 := z0 h6 fun q => kl_as (kl_tr S.ij S.jk) q.2
  have o1 := S.o1; have o2 := S.o2; have e := S.si
  have n3 : 1 ≤ n := by rcases S.n3 with h | h | h <;> omega
  constructor
  · intro q
    have := q.1; have := q.2.1
    clear h1 h2 h3 h4 h5 h6
    omega
  · intro q
    have l1 := z0 h1 (by show ¬(s i < t + 0 ∧ _); exact fun x => by have := x.1; clear h1 h2 h3 h4 h5 h6; omega)
    have l2 := z0 h2 (by show ¬(s j < t + 0 ∧ _); exact fun x => by have := x.1; clear h1 h2 h3 h4 h5 h6; omega)
    have l3 := z0 h3 (by show ¬(s k < t + 0 ∧ _); exact fun x => by have := x.1; clear h1 h2 h3 h4 h5 h6; omega)
    clear h1 h2 h3 h4 h5 h6
    omega
theorem cJ {s : Int → Int} (m : [i, j, k] ∈ prm) (S : Sts c h s n i j k) : cnd (Mb s (d1 i) t) c h n t j = decide (s j = t) := by
  obtain ⟨_, _, _, hij, hik, hjk⟩ := prm3 m
  have e1 : d1 i i = 1 := up_eq _ _ _
  have e2 : d1 i j = 0 := if_neg (Ne.symm hij)
  have e3 : d1 i k = 0 := if_neg (Ne.symm hik)
  refine cnd_iff m e2 fun li lj lk ai aj ak h1 h2 h3 h4 h5 h6 => ?_
  rw [e1] at h1 h4
  rw [e2] at h2
  rw [e3] at h3
  have a4 := z1 h4 S.ij
  have a5 := z0 h5 fun q => kl_irr q.2
  have a6 := z0 h6 fun q => kl_as S.jk q.2
  clear h4 h5 h6 e1 e2 e3
  have o1 := S.o1; have o2 := S.o2; have hi := S.hi
  have l3 : ¬s k < t → lk = 0 := fun q => z0 h3 fun x => by have := x.1; clear h1 h2 h3; omega
  have l2 : ¬s j < t → lj = 0 := fun q => z0 h2 fun x => by have := x.1; clear h1 h2 h3; omega
  have l1 := z2 h1
  constructor
  · intro ⟨q1, q2, q3, q4⟩
    have b2 := l2 q1
    have b3 := l3 (by clear h1 h2 h3; omega)
    have b4 := z2 a4
    have b5 : ai = 0 := by clear h1 h2 h3 a4 l2 l3; omega
    have b6 := z3 a4 b5
    rcases S.sj with ⟨rfl, q⟩ | ⟨_, q⟩
    · have b7 := z3 h1 (by clear h1 h2 h3 a4 l2 l3; omega)
      clear h1 h2 h3 a4 l2 l3
      omega
    · clear h1 h2 h3 a4 l2 l3
      omega
  · intro q
    have b2 := l2 (by clear h1 h2 h3 a4; omega)
    have b3 := l3 (by clear h1 h2 h3 a4; omega)
    have b4 := z0 a4 (by clear h1 h2 h3 a4; omega)
    clear a4 h2 h3 l2 l3
    rcases S.sj with ⟨rfl, q'⟩ | ⟨q0, q'⟩
    · have b5 := z0 h1 (by clear h1; omega)
      clear h1
      omega
    · clear h1
      rcases S.n3 with h | h | h <;> omega
theorem cK {s : Int → Int} (m : [i, j, k] ∈ prm) (S : Sts c h s n i j k) : cnd (Mb s (d2 i j) t) c h n t k = decide (s k = t) := by
  obtain ⟨_, _, _, hij, hik, hjk⟩ := prm3 m
  have e1 : d2 i j i = 1 := (if_neg hij).trans (up_eq _ _ _)
  have e2 : d2 i j j = 1 := up_eq _ _ _
  have e3 : d2 i j k = 0 := (if_neg (Ne.symm hjk)).trans (if_neg (Ne.symm hik))
  refine cnd_iff m e3 fun li lj lk ai aj ak h1 h2 h3 h4 h5 h6 => ?_
  rw [e1] at h1 h4
  rw [e2] at h2 h5
  rw [e3] at h3
  have a4 := z1 h4 (kl_tr S.ij S.jk)
  have a5 := z1 h5 S.jk
  have a6 := z0 h6 fun q => kl_irr q.2
  clear h4 h5 h6 e1 e2 e3
  have o1 := S.o1; have o2 := S.o2; have hi := S.hi; have hj := S.hj; have ci := S.ci
  have l3 : ¬s k < t → lk = 0 := fun q => z0 h3 fun x => by have := x.1; clear h1 h2 h3; omega
  have l2 := z2 h2
  have l1 := z2 h1
  constructor
  · intro ⟨q1, q2, q3, q4⟩
    have b3 := l3 q1
    have b4 := z2 a4
    have b4' := z2 a5
    have b5 : ai = 0 := by clear h1 h2 h3 a4 a5 l3; omega
    have b5' : aj = 0 := by clear h1 h2 h3 a4 a5 l3; omega
    have b6 := z3 a4 b5
    have b6' := z3 a5 b5'
    clear a4 a5 h3 l3
    rcases S.sk with ⟨rfl, q⟩ | ⟨rfl, q⟩ | ⟨rfl, q⟩
    · have b7 := z3 h1 (by clear h1 h2; omega)
      have b8 := z3 h2 (by clear h1 h2; omega)
      clear h1 h2
      omega
    · rcases (show li = 0 ∨ lj = 0 by clear h1 h2; omega) with w | w
      · have b7 := z3 h1 w
        clear h1 h2
        omega
      · have b7 := z3 h2 w
        clear h1 h2
        omega
    · clear h1 h2
      omega
  · intro q
    have b3 := l3 (by clear h1 h2 h3 a4 a5; omega)
    have b4 := z0 a4 (by clear h1 h2 h3 a4 a5; omega)
    have b4' := z0 a5 (by clear h1 h2 h3 a4 a5; omega)
    clear a4 a5 h3 l3
    rcases S.sk with ⟨rfl, q'⟩ | ⟨rfl, q'⟩ | ⟨rfl, q'⟩
    · have b6 : s i + h i ≤ s j := by
        rcases S.sj with ⟨_, w⟩ | ⟨w, _⟩
        · clear h1 h2; omega
        · exact absurd rfl w
      have b5 := z0 h1 (by clear h1 h2; omega)
      have b5' := z0 h2 (by clear h1 h2; omega)
      clear h1 h2
      omega
    · by_cases w : s i + h i ≤ t
      · have b5 := z0 h1 (by clear h1 h2; omega)
        clear h1 h2
        omega
      · have b5 := z0 h2 (by clear h1 h2; omega)
        clear h1 h2
        omega
    · clear h1 h2
      omega
end
end Cw.J
end

section
namespace Cw.J
open PySem
theorem forO_rng {σ : Type} {g : Int → σ → Option σ} (mk : Int → σ) : ∀ (n : Nat) (a : Int), (∀ t, a ≤ t → t < a + n → g t (mk t) = some (mk (t + 1))) → forO g (rngL a (a + n)) (mk a) = some (mk (a + n))
  | 0, a, _ => by
    rw [rngL_nil (by omega)]
    show some (mk a) = _
    rw [show a + ((0 : Nat) : Int) = a by omega]
  | n + 1, a, h => by
    rw [rngL_cons (by omega), forO_c, h a (by omega) (by omega)]
    simp only [Option.bind_some]
    have q := forO_rng mk n (a + 1) fun t h1 h2 => h t (by omega) (by omega)
    rw [show a + ((n + 1 : Nat) : Int) = a + 1 + (n : Int) by omega]
    exact q
def Turned (s : Int → Int) (cm h : Int → Int) (n i j k : Int) : Prop := ∀ t, cnd (Mb s d0 t) cm h n t i = decide (s i = t) ∧ cnd (Mb s (d1 i) t) cm h n t j = decide (s j = t) ∧ cnd (Mb s (d2 i j) t) cm h n t k = decide (s k = t)
theorem li_d3 {s : Int → Int} {t i j k : Int} (m : [i, j, k] ∈ prm) : li (Mb s (up (d2 i j) k 1) t) = li (Mb s d0 (t + 1)) := by
  have q : ∀ y, K3 y → Mb s (up (d2 i j) k 1) t y = Mb s d0 (t + 1) y := by
    intro y hy
    obtain ⟨ki, kj, kk, hij, hik, hjk⟩ := prm3 m
    have hd : up (d2 i j) k 1 y = 1 := by
      unfold d2 d1 up
      by_cases h1 : y = k
      · rw [if_pos h1]
      · rw [if_neg h1]
        by_cases h2 : y = j
        · rw [if_pos h2]
        · rw [if_neg h2, if_pos (by unfold K3 at *; omega)]
    unfold Mb
    rw [hd]
    by_cases h : s y < t + 1
    · rw [if_pos h, if_pos (by unfold d0; omega)]
    · rw [if_neg h, if_neg (by unfold d0; omega)]
  unfold li
  rw [q 0 (.inl rfl), q 1 (.inr (.inl rfl)), q 2 (.inr (.inr rfl))]
theorem l5 (script : (List Int)) (row : (List Int)) (spot : (List Int)) (part : Int) (number : Int) (a : Int) (b : Int) (c : Int) (hours : (List Int)) (ships : (List (List Int))) (berths : Int) (clock : Int) {cm h s : Int → Int} {i j k : Int} (H : Sok ships cm h) (T : Tn cm i j k) (W : Turned s cm h berths i j k) :
    (s_law_L5 s_law_L6).1 (script, row, spot, part, number, a, b, c, hours, ships, berths, (), (), li (Mb s d0 clock), clock, (), (), (), (), (), (), (), (), ()) = some (script, row, spot, part, number, a, b, c, hours, ships, berths, (), (), li (Mb s d0 (clock + 1)), (), (), (), (), (), (), (), (), (), ()) := by
  unfold s_law_L5
  have r3 : rngO 0 3 = some [0, 1, 2] := rfl
  have p0 : ∀ u v : Int, L2.atI [u, v] 0 = some u := fun _ _ => rfl
  obtain ⟨ki, kj, kk, hij, hik, hjk⟩ := prm3 T.mem
  simp only [Option.bind_some, Option.map_some, if_true, id, Option.bind_assoc, r3]
  rw [cmpO3 (x := [cm 0, 0]) (y := [cm 1, 1]) (z := [cm 2, 2]) ?_ ?_ ?_]
  rotate_left
  · simp only [H.at_ (.inl rfl), Option.bind_some, p0]
  · simp only [H.at_ (.inr (.inl rfl)), Option.bind_some, p0]
  · simp only [H.at_ (.inr (.inr rfl)), Option.bind_some, p0]
  simp only [Option.bind_some, T.srt, forO_c, forO_n]
  obtain ⟨w1, w2, w3⟩ := W clock
  have e2 : d1 i j = 0 := if_neg (Ne.symm hij)
  have e3 : d2 i j k = 0 := (if_neg (Ne.symm hjk)).trans (if_neg (Ne.symm hik))
  rw [l6 script row spot part number a b c hours ships berths clock H ki, m_step rfl w1]
  simp only [Option.bind_some]
  rw [show up d0 i 1 = d1 i from rfl, l6 script row spot part number a b c hours ships berths clock H kj, m_step e2 w2]
  simp only [Option.bind_some]
  rw [show up (d1 i) j 1 = d2 i j from rfl, l6 script row spot part number a b c hours ships berths clock H kk, m_step e3 w3, li_d3 T.mem]
  rfl
theorem l_turned {cm h : Int → Int} {n i j k : Int} {ships : List (List Int)} (H : Sok ships cm h) (T : Tn cm i j k) (hn : N3 n) : Turned (hs cm h n i j k) cm h n i j k := fun t =>
  ⟨cI T.mem (sts_of H T hn), cJ T.mem (sts_of H T hn), cK T.mem (sts_of H T hn)⟩
end Cw.J
end

section
namespace Cw.J
open PySem
def HB (z : List (List Int) → List Int → Int → Option (List Int)) (N : Int → Prop) : Prop := ∀ {ships : List (List Int)} {c h : Int → Int} {n i j k : Int}, Sok ships c h → [i, j, k] ∈ prm → N n → z ships [i, j, k] n = some (li (hs c h n i j k))
def TO (z : S_turn_of) : Prop := ∀ {ships : List (List Int)} {c h : Int → Int} {i j k : Int}, Sok ships c h → Tn c i j k → z.1 ships = some [i, j, k]
def wt (c s : Int → Int) : Int := (s 0 - c 0) + (s 1 - c 1) + (s 2 - c 2)
def WD (z : S_hours_waited) : Prop := ∀ {ships : List (List Int)} {c h s : Int → Int}, Sok ships c h → z.1 ships (li s) = some (wt c s)
theorem l_waited : WD s_hours_waited := by
  intro ships c h s H
  unfold s_hours_waited p_hours_waited
  simp only [Option.bind_some, Option.map_some, if_true, id, Option.bind_assoc]
  rw [show List.zip (li s) ships = [(s 0, [c 0, h 0]), (s 1, [c 1, h 1]), (s 2, [c 2, h 2])] by rw [H.eq]; rfl]
  rw [cmpO3 (x := s 0 - c 0) (y := s 1 - c 1) (z := s 2 - c 2) ?_ ?_ ?_]
  rotate_left
  · rfl
  · rfl
  · rfl
  simp only [Option.bind_some, List.sum_cons, List.sum_nil, wt, Option.some.injEq]
  omega
section
variable {ships : List (List Int)} {cm h : Int → Int} {n i j k : Int}
theorem l_inturn (z1 : S_require_quay) (z2 : S_hours_begun) (z3 : S_turn_of) (h1 : RqOk z1) (h2 : HB z2.1 N3) (h3 : TO z3) (H : Sok ships cm h) (T : Tn cm i j k) (hn : N3 n) : (s_in_turn z1 z2 z3).1 ships n = some (li (hs cm h n i j k)) := by
  unfold s_in_turn p_in_turn
  simp only [Option.bind_some, Option.map_some, if_true, id, Option.bind_assoc, h1 H hn, h3 H T, h2 H T.mem hn]
theorem l_waiting (z1 : S_require_quay) (z2 : S_hours_waited) (z3 : S_hours_begun) (z4 : S_turn_of) (h1 : RqOk z1) (h2 : WD z2) (h3 : HB z3.1 N3) (h4 : TO z4) (H : Sok ships cm h) (T : Tn cm i j k) (hn : N3 n) : (s_waiting z1 z2 z3 z4).1 ships n = some (wt cm (hs cm h n i j k)) := by
  unfold s_waiting p_waiting
  simp only [Option.bind_some, Option.map_some, if_true, id, Option.bind_assoc, h1 H hn, h4 H T, h3 H T.mem hn, h2 H]
theorem l_last (z1 : S_require_quay) (z2 : S_hours_begun) (z3 : S_turn_of) (h1 : RqOk z1) (h2 : HB z2.1 N3) (h3 : TO z3) (H : Sok ships cm h) (T : Tn cm i j k) (hn : N3 n) : (s_last_free z1 z2 z3).1 ships n = maxI [hs cm h n i j k 0 + h 0, hs cm h n i j k 1 + h 1, hs cm h n i j k 2 + h 2] := by
  unfold s_last_free p_last_free
  simp only [Option.bind_some, Option.map_some, if_true, id, Option.bind_assoc, h1 H hn, h3 H T, h2 H T.mem hn]
  generalize hs cm h n i j k = s
  rw [show List.zip (li s) ships = [(s 0, [cm 0, h 0]), (s 1, [cm 1, h 1]), (s 2, [cm 2, h 2])] by rw [H.eq]; rfl]
  rw [cmpO3 (x := s 0 + h 0) (y := s 1 + h 1) (z := s 2 + h 2) ?_ ?_ ?_]
  rotate_left
  · rfl
  · rfl
  · rfl
  rfl
theorem hs_bd (H : Sok ships cm h) (T : Tn cm i j k) (hn : N3 n) : ∀ y, K3 y → 0 ≤ hs cm h n i j k y ∧ hs cm h n i j k y < 30 := by
  have S := sts_of H T hn
  obtain ⟨ki, kj, kk, hij, hik, hjk⟩ := prm3 T.mem
  have a := H.bd i ki
  have b := H.bd j kj
  have d := H.bd k kk
  have o1 := S.o1; have o2 := S.o2; have si := S.si
  have m2 : hs cm h n i j k j ≤ 7 := by
    rcases S.sj with ⟨_, q⟩ | ⟨_, q⟩ <;> omega
  have m3 : hs cm h n i j k k ≤ 11 := by
    rcases S.sk with ⟨_, q⟩ | ⟨_, q⟩ | ⟨_, q⟩ <;> omega
  intro y hy
  have e : y = i ∨ y = j ∨ y = k := by
    clear a b d o1 o2 si m2 m3 S
    unfold K3 at *
    omega
  rcases e with rfl | rfl | rfl <;> omega
theorem li_0 {s : Int → Int} (hb : ∀ y, K3 y → 0 ≤ s y ∧ s y < 30) : li (Mb s d0 0) = [none, none, none] := by
  have q : ∀ y, K3 y → Mb s d0 0 y = none := fun y hy => if_neg (by have := hb y hy; unfold d0; omega)
  unfold li
  rw [q 0 (.inl rfl), q 1 (.inr (.inl rfl)), q 2 (.inr (.inr rfl))]
theorem li_30 {s : Int → Int} (hb : ∀ y, K3 y → 0 ≤ s y ∧ s y < 30) : li (Mb s d0 30) = [some (s 0), some (s 1), some (s 2)] := by
  have q : ∀ y, K3 y → Mb s d0 30 y = some (s y) := fun y hy => if_pos (by have := hb y hy; unfold d0; omega)
  unfold li
  rw [q 0 (.inl rfl), q 1 (.inr (.inl rfl)), q 2 (.inr (.inr rfl))]
end
theorem l4 (z1 : S_in_turn) (z2 : S_waiting) (z3 : S_last_free) (script : (List Int)) (row : (List Int)) (spot : (List Int)) (part : Int) (number : Int) (ships : (List (List Int))) (berths : Int) {cm h : Int → Int} {i j k : Int} (H : Sok ships cm h) (T : Tn cm i j k) (hn : N3 berths)
    (h1 : z1.1 ships berths = some (li (hs cm h berths i j k))) (h2 : z2.1 ships berths = some (wt cm (hs cm h berths i j k))) (h3 : z3.1 ships berths = maxI [hs cm h berths i j k 0 + h 0, hs cm h berths i j k 1 + h 1, hs cm h berths i j k 2 + h 2]) :
    (s_law_L4 (s_law_L5 s_law_L6) z1 z2 z3).1 (script, row, spot, part, number, cm 0, cm 1, cm 2, li h, ships, berths, (), (), (), (), (), (), (), (), (), (), (), (), ()) = some (.nx (script, row, spot, part, number, cm 0, cm 1, cm 2, li h, ships, (), (), (), (), (), (), (), (), (), (), (), (), (), ())) := by
  have hb := hs_bd H T hn
  have W := l_turned H T hn
  generalize hs cm h berths i j k = s at *
  unfold s_law_L4
  simp only [Option.bind_some, Option.map_some, if_true, id, Option.bind_assoc]
  rw [show repO [(none : Option Int)] 3 = some [none, none, none] from rfl, ← li_0 hb, show rngO 0 30 = some (rngL 0 (0 + (30 : Nat))) from rfl]
  simp only [Option.bind_some]
  rw [forO_rng (fun t => (script, row, spot, part, number, cm 0, cm 1, cm 2, li h, ships, berths, (), (), li (Mb s d0 t), (), (), (), (), (), (), (), (), (), ())) 30 0 fun t _ _ => l5 script row spot part number (cm 0) (cm 1) (cm 2) (li h) ships berths t H T W]
  rw [show (0 : Int) + ((30 : Nat) : Int) = 30 from rfl, li_30 hb]
  have r3 : rngO 0 3 = some [0, 1, 2] := rfl
  have al : allO [some (s 0), some (s 1), some (s 2)] = some [s 0, s 1, s 2] := rfl
  simp only [Option.bind_some, h1, h2, h3, Option.map_some, r3, al]
  rw [show List.map (fun x => some x) (li s) = [some (s 0), some (s 1), some (s 2)] from rfl]
  simp only [beq_self_eq_true, Bool.not_true, Bool.false_eq_true, if_false, Option.bind_some, List.sum_cons, List.sum_nil]
  have e : wt cm s = s 0 + (s 1 + (s 2 + 0)) - cm 0 - cm 1 - cm 2 := by unfold wt; omega
  simp only [e, decide_true, Bool.not_true, Bool.false_eq_true, if_false, Option.bind_some]
  rw [cmpO3 (x := s 0 + h 0) (y := s 1 + h 1) (z := s 2 + h 2) ?_ ?_ ?_]
  rotate_left
  · rfl
  · rfl
  · rfl
  have mx : ∀ x y z : Int, maxI [x, y, z] = some (max (max x y) z) := fun _ _ _ => rfl
  simp only [mx, Option.bind_some, decide_true, Bool.not_true, Bool.false_eq_true, if_false]
end Cw.J
end

section
namespace Cw.J
open PySem
def LWt (c h : Int → Int) : List Int → Int
  | [i, j, k] => 0 + max 0 (c i) - c i + max (max 0 (c i) + h i) (c j) - c j + max (max (max 0 (c i) + h i) (c j) + h j) (c k) - c k
  | _ => 0
theorem wt_prm (c s : Int → Int) {i j k : Int} (m : [i, j, k] ∈ prm) : wt c s = (s i - c i) + (s j - c j) + (s k - c k) := by
  unfold wt
  simp only [prm, List.mem_cons, List.not_mem_nil, or_false, List.cons.injEq, and_true] at m
  rcases m with ⟨rfl, rfl, rfl⟩ | ⟨rfl, rfl, rfl⟩ | ⟨rfl, rfl, rfl⟩ | ⟨rfl, rfl, rfl⟩ | ⟨rfl, rfl, rfl⟩ | ⟨rfl, rfl, rfl⟩ <;> omega
theorem wt_1 {c h : Int → Int} {i j k : Int} (m : [i, j, k] ∈ prm) : wt c (hs c h 1 i j k) = LWt c h [i, j, k] := by
  rw [wt_prm _ _ m, hs_i m, hs_j m, hs_k m, if_pos rfl, if_pos rfl]
  have e : LWt c h [i, j, k] = 0 + max 0 (c i) - c i + max (max 0 (c i) + h i) (c j) - c j + max (max (max 0 (c i) + h i) (c j) + h j) (c k) - c k := rfl
  rw [e]
  unfold s1K s1J sA
  rw [show max (c i) 0 = max 0 (c i) by omega]
  generalize max 0 (c i) = u
  rw [show max (c j) (u + h i) = max (u + h i) (c j) by omega]
  generalize max (u + h i) (c j) = v
  rw [show max (c k) (v + h j) = max (v + h j) (c k) by omega]
  omega
theorem wt_3 {ships : List (List Int)} {c h : Int → Int} {i j k : Int} (H : Sok ships c h) (m : [i, j, k] ∈ prm) : wt c (hs c h 3 i j k) = 0 := by
  rw [wt_prm _ _ m, hs_i m, hs_j m, hs_k m, if_neg (by decide), if_neg (by decide), if_neg (by decide)]
  obtain ⟨ki, kj, kk, hij, hik, hjk⟩ := prm3 m
  have a := (H.bd i ki).1.1
  have b := (H.bd j kj).1.1
  have d := (H.bd k kk).1.1
  omega
theorem ord_prm {o : List Int} (ho : o ∈ prm) : ∃ i j k, o = [i, j, k] := by
  simp only [prm, List.mem_cons, List.not_mem_nil, or_false] at ho
  rcases ho with rfl | rfl | rfl | rfl | rfl | rfl <;> exact ⟨_, _, _, rfl⟩
theorem l_least (z1 : S_require) (z2 : S_are_ships) (z3 : S_all_orders) (z4 : S_hours_waited) (z5 : S_hours_begun_2) (h1 : ∀ k, z1.1 true k = some ()) (h2 : ShOk z2) (h3 : z3.1 3 = some prm) (h4 : WD z4) (h5 : HB z5.1 (· = 1)) {ships : List (List Int)} {c h : Int → Int} (H : Sok ships c h) :
    (s_least_waiting z1 z2 z3 z4 z5).1 ships = minB lt2 (prm.map fun o => (LWt c h o, o)) := by
  unfold s_least_waiting p_least_waiting
  simp only [Option.bind_some, Option.map_some, if_true, id, Option.bind_assoc, h1, h2 H]
  rw [show ((ships.length : Nat) : Int) = 3 by rw [H.eq]; rfl, h3]
  simp only [Option.bind_some]
  rw [cmpO_map (fun o => (LWt c h o, o)) (by decide) fun o ho => by
    obtain ⟨i, j, k, rfl⟩ := ord_prm ho
    rw [h5 H ho rfl, Option.bind_some, h4 H, wt_1 ho]; rfl]
  rfl
theorem l7 (script : (List Int)) (row : (List Int)) (spot : (List Int)) (part : Int) (number : Int) (a : Int) (b : Int) (c : Int) (ships : (List (List Int))) (best : (Option (Int × (List Int)))) (order : (List Int)) {cm h : Int → Int} (H : Sok ships cm h) (ho : order ∈ prm) :
    s_law_L7.1 (script, row, spot, part, number, a, b, c, li h, ships, (), best, order, (), (), (), (), (), (), (), (), (), (), ()) = some (script, row, spot, part, number, a, b, c, li h, ships, (), bstep lt2 (fun _ => true) (fun o => (LWt cm h o, o)) best order, (), (), (), (), (), (), (), (), (), (), (), ()) := by
  obtain ⟨i, j, k, rfl⟩ := ord_prm ho
  obtain ⟨ki, kj, kk, hij, hik, hjk⟩ := prm3 ho
  unfold s_law_L7
  have p0 : ∀ u v : Int, L2.atI [u, v] 0 = some u := fun _ _ => rfl
  simp only [Option.bind_some, Option.map_some, if_true, id, Option.bind_assoc, forO_c, forO_n, H.at_ ki, H.at_ kj, H.at_ kk, p0, li_at ki, li_at kj, li_at kk]
  unfold bstep
  cases best with
  | none => rfl
  | some m =>
    by_cases hb : lt2 (LWt cm h [i, j, k], [i, j, k]) m = true
    · simp only [Option.isNone_some, Bool.false_eq_true, if_false, Option.bind_some, if_true, if_pos hb]
      exact congrArg (fun o => Option.bind o _) (if_pos hb)
    · simp only [Option.isNone_some, Bool.false_eq_true, if_false, Option.bind_some, if_true, if_neg hb]
      exact congrArg (fun o => Option.bind o _) (if_neg hb)
def Q4 (x : Int) : Prop := 0 ≤ x ∧ x < 4
theorem b3 (z1 : S__law_take) (z2 : S_law_L4) (z3 : S__law_perms) (z4 : S_law_L7) (z5 : S_least_waiting) (z6 : S_waiting) (h1 : TakeOk z1)
    (h2 : ∀ (script : (List Int)) (row : (List Int)) (spot : (List Int)) (part : Int) (number : Int) (ships : (List (List Int))) (berths : Int) {cm h : Int → Int} {i j k : Int}, Sok ships cm h → Tn cm i j k → N3 berths → z2.1 (script, row, spot, part, number, cm 0, cm 1, cm 2, li h, ships, berths, (), (), (), (), (), (), (), (), (), (), (), (), ()) = some (.nx (script, row, spot, part, number, cm 0, cm 1, cm 2, li h, ships, (), (), (), (), (), (), (), (), (), (), (), (), (), ())))
    (h3 : z3.1 3 = some prm) (h4 : ∀ (script : (List Int)) (row : (List Int)) (spot : (List Int)) (part : Int) (number : Int) (a : Int) (b : Int) (c : Int) (ships : (List (List Int))) (best : (Option (Int × (List Int)))) (order : (List Int)) {cm h : Int → Int}, Sok ships cm h → order ∈ prm → z4.1 (script, row, spot, part, number, a, b, c, li h, ships, (), best, order, (), (), (), (), (), (), (), (), (), (), ()) = some (script, row, spot, part, number, a, b, c, li h, ships, (), bstep lt2 (fun _ => true) (fun o => (LWt cm h o, o)) best order, (), (), (), (), (), (), (), (), (), (), (), ())) (h5 : ∀ {ships : List (List Int)} {c h : Int → Int}, Sok ships c h → z5.1 ships = minB lt2 (prm.map fun o => (LWt c h o, o)))
    (h6 : ∀ {ships : List (List Int)} {c h : Int → Int} {i j k : Int}, Sok ships c h → Tn c i j k → z6.1 ships 3 = some (wt c (hs c h 3 i j k)))
    (script : (List Int)) (row : (List Int)) (spot : (List Int)) (part : Int) (number : Int) (a : Int) (b : Int) (c : Int) (hr : 0 < row.length) (hr2 : row.length ≤ 4000) (hs' : Sp spot) (ha : Q4 a) (hb : Q4 b) (hc : Q4 c) :
    Gv ((s_law_L3 z1 z2 z3 z4 z5 z6).1 (script, row, spot, part, number, a, b, c, (), (), (), (), (), (), (), (), (), (), (), (), (), (), (), ())) fun o => ∃ number' spot', o = .nx (script, row, spot', part, number', a, b, (), (), (), (), (), (), (), (), (), (), (), (), (), (), (), (), ()) ∧ Sp spot' := by
  unfold s_law_L3
  simp only [Option.bind_some, Option.map_some, if_true, id, Option.bind_assoc]
  rw [modO_ok (by decide)]
  simp only [Option.bind_some]
  refine gv_iff (fun _ => ?_) (fun _ => gv_some ⟨_, _, rfl, hs'⟩)
  obtain ⟨v0, e0, b0, q0⟩ := h1 hr hr2 hs' (show (0 : Int) < 4 by decide)
  obtain ⟨v1, e1, b1, q1⟩ := h1 hr hr2 q0 (show (0 : Int) < 4 by decide)
  obtain ⟨v2, e2, b2, q2⟩ := h1 hr hr2 q1 (show (0 : Int) < 4 by decide)
  rw [show rngO 0 3 = some [0, 1, 2] from rfl, show rngO 1 4 = some [1, 2, 3] from rfl]
  simp only [Option.bind_some, cmpX, e0, e1, e2, Option.map_some]
  have lm : ∀ {σ : Type} (x y z : Int) (s : σ), limX ([x, y, z], s) = some ([x, y, z], s) := fun _ _ _ _ => rfl
  have a0 : ∀ x y z : Int, L2.atI [x, y, z] 0 = some x := fun _ _ _ => rfl
  have a1 : ∀ x y z : Int, L2.atI [x, y, z] 1 = some y := fun _ _ _ => rfl
  have a2 : ∀ x y z : Int, L2.atI [x, y, z] 2 = some z := fun _ _ _ => rfl
  simp only [lm, a0, a1, a2, Option.bind_some, h3]
  have H : Sok [[a, 1 + v0.1], [b, 1 + v1.1], [c, 1 + v2.1]] (p3 a b c) (p3 (1 + v0.1) (1 + v1.1) (1 + v2.1)) := ⟨rfl, fun k hk => by
    obtain ⟨ha1, ha2⟩ := ha
    obtain ⟨hb1, hb2⟩ := hb
    obtain ⟨hc1, hc2⟩ := hc
    rcases hk with rfl | rfl | rfl
    · exact ⟨⟨ha1, by show a ≤ 3; omega⟩, by show 1 ≤ 1 + v0.1; omega, by show 1 + v0.1 ≤ 4; omega⟩
    · exact ⟨⟨hb1, by show b ≤ 3; omega⟩, by show 1 ≤ 1 + v1.1; omega, by show 1 + v1.1 ≤ 4; omega⟩
    · exact ⟨⟨hc1, by show c ≤ 3; omega⟩, by show 1 ≤ 1 + v2.1; omega, by show 1 + v2.1 ≤ 4; omega⟩⟩
  obtain ⟨i, j, k, T⟩ := tn_ex fun x hx => (H.bd x hx).1
  rw [forG_all (fun n hn => ?_)]
  rotate_left
  · have hn' : N3 n := by simpa [N3] using hn
    exact h2 script row v2.2.1 part (number + 1) _ n H T hn'
  simp only [en]
  obtain ⟨m, hm⟩ : ∃ m, minB lt2 (prm.map fun o => (LWt (p3 a b c) (p3 (1 + v0.1) (1 + v1.1) (1 + v2.1)) o, o)) = some m := ⟨_, rfl⟩
  have hB := best_none lt2 (fun _ => true) (fun o => (LWt (p3 a b c) (p3 (1 + v0.1) (1 + v1.1) (1 + v2.1)) o, o)) prm
  rw [show (prm.filter fun _ => true) = prm from rfl, hm] at hB
  rw [forO_mk (fun best => (script, row, v2.2.1, part, number + 1, a, b, c, [1 + v0.1, 1 + v1.1, 1 + v2.1], [[a, 1 + v0.1], [b, 1 + v1.1], [c, 1 + v2.1]], (), best, (), (), (), (), (), (), (), (), (), (), (), ())) (bstep lt2 (fun _ => true) (fun o => (LWt (p3 a b c) (p3 (1 + v0.1) (1 + v1.1) (1 + v2.1)) o, o))) prm none (fun x hx t => h4 script row v2.2.1 part (number + 1) a b c _ t x H hx), hB]
  simp only [Option.bind_some, h5 H, hm, Option.map_some, beq_self_eq_true, Bool.not_true, Bool.false_eq_true, if_false, h6 H T, wt_3 H T.mem, decide_true]
  exact gv_some ⟨_, _, rfl, q2⟩
end Cw.J
end

section
namespace Cw.J
open PySem
theorem b2' (z : S_law_L3) (row : List Int) (hr : 0 < row.length) (hr2 : row.length ≤ 4000)
    (h : ∀ (script : (List Int)) (spot : (List Int)) (part : Int) (number : Int) (a : Int) (b : Int) (c : Int), Sp spot → Q4 a → Q4 b → Q4 c → Gv (z.1 (script, row, spot, part, number, a, b, c, (), (), (), (), (), (), (), (), (), (), (), (), (), (), (), ())) fun o => ∃ number' spot', o = .nx (script, row, spot', part, number', a, b, (), (), (), (), (), (), (), (), (), (), (), (), (), (), (), (), ()) ∧ Sp spot')
    (script : (List Int)) (spot : (List Int)) (part : Int) (number : Int) (a : Int) (b : Int) (hs' : Sp spot) (ha : Q4 a) (hb : Q4 b) :
    Gv ((s_law_L2 z).1 (script, row, spot, part, number, a, b, (), (), (), (), (), (), (), (), (), (), (), (), (), (), (), (), ())) fun o => ∃ number' spot', o = .nx (script, row, spot', part, number', a, (), (), (), (), (), (), (), (), (), (), (), (), (), (), (), (), (), ()) ∧ Sp spot' := by
  unfold s_law_L2
  simp only [Option.bind_some, Option.map_some, if_true, id, Option.bind_assoc]
  rw [rngO_ok (by decide) (by decide) (by decide) (by decide)]
  simp only [Option.bind_some]
  refine gv_en (gv_mono (gv_forN (fun _ s => ∃ number' spot', s = (script, row, spot', part, number', a, b, (), (), (), (), (), (), (), (), (), (), (), (), (), (), (), (), ()) ∧ Sp spot') (rngL 0 4) 0 _ ⟨_, _, rfl, hs'⟩ (fun i x s hx hI => ?_) (R := fun s => ∃ number' spot', s = (script, row, spot', part, number', a, b, (), (), (), (), (), (), (), (), (), (), (), (), (), (), (), (), ()) ∧ Sp spot') (fun s hI => hI)) fun o ho' => ?_)
  · obtain ⟨n', sp', rfl, hsp⟩ := hI
    refine gv_mono (h _ _ _ _ _ _ _ hsp ha hb (mem_rng.mp hx)) fun o ho' => ?_
    obtain ⟨n2, sp2, rfl, h2⟩ := ho'
    exact ⟨_, rfl, _, _, rfl, h2⟩
  · obtain ⟨s, rfl, n', sp', rfl, hsp⟩ := ho'
    exact ⟨_, rfl, gv_some ⟨_, _, rfl, hsp⟩⟩
theorem b1' (z : S_law_L2) (row : List Int) (hr : 0 < row.length) (hr2 : row.length ≤ 4000)
    (h : ∀ (script : (List Int)) (spot : (List Int)) (part : Int) (number : Int) (a : Int) (b : Int), Sp spot → Q4 a → Q4 b → Gv (z.1 (script, row, spot, part, number, a, b, (), (), (), (), (), (), (), (), (), (), (), (), (), (), (), (), ())) fun o => ∃ number' spot', o = .nx (script, row, spot', part, number', a, (), (), (), (), (), (), (), (), (), (), (), (), (), (), (), (), (), ()) ∧ Sp spot')
    (script : (List Int)) (spot : (List Int)) (part : Int) (number : Int) (a : Int) (hs' : Sp spot) (ha : Q4 a) :
    Gv ((s_law_L1 z).1 (script, row, spot, part, number, a, (), (), (), (), (), (), (), (), (), (), (), (), (), (), (), (), (), ())) fun o => ∃ number' spot', o = .nx (script, row, spot', part, number', (), (), (), (), (), (), (), (), (), (), (), (), (), (), (), (), (), (), ()) ∧ Sp spot' := by
  unfold s_law_L1
  simp only [Option.bind_some, Option.map_some, if_true, id, Option.bind_assoc]
  rw [rngO_ok (by decide) (by decide) (by decide) (by decide)]
  simp only [Option.bind_some]
  refine gv_en (gv_mono (gv_forN (fun _ s => ∃ number' spot', s = (script, row, spot', part, number', a, (), (), (), (), (), (), (), (), (), (), (), (), (), (), (), (), (), ()) ∧ Sp spot') (rngL 0 4) 0 _ ⟨_, _, rfl, hs'⟩ (fun i x s hx hI => ?_) (R := fun s => ∃ number' spot', s = (script, row, spot', part, number', a, (), (), (), (), (), (), (), (), (), (), (), (), (), (), (), (), (), ()) ∧ Sp spot') (fun s hI => hI)) fun o ho' => ?_)
  · obtain ⟨n', sp', rfl, hsp⟩ := hI
    refine gv_mono (h _ _ _ _ _ _ hsp ha (mem_rng.mp hx)) fun o ho' => ?_
    obtain ⟨n2, sp2, rfl, h2⟩ := ho'
    exact ⟨_, rfl, _, _, rfl, h2⟩
  · obtain ⟨s, rfl, n', sp', rfl, hsp⟩ := ho'
    exact ⟨_, rfl, gv_some ⟨_, _, rfl, hsp⟩⟩
theorem law_ok (z1 : S__law_numbers) (z2 : S__law_take) (z3 : S_law_L1)
    (h1 : ∀ ns, Gv (z1.1 ns) fun row => 0 < row.length ∧ row.length ≤ 4000) (h2 : TakeOk z2)
    (h3 : ∀ row, 0 < row.length → row.length ≤ 4000 → ∀ (script : (List Int)) (spot : (List Int)) (part : Int) (number : Int) (a : Int), Sp spot → Q4 a → Gv (z3.1 (script, row, spot, part, number, a, (), (), (), (), (), (), (), (), (), (), (), (), (), (), (), (), (), ())) fun o => ∃ number' spot', o = .nx (script, row, spot', part, number', (), (), (), (), (), (), (), (), (), (), (), (), (), (), (), (), (), (), ()) ∧ Sp spot') (ns : List Int) :
    (s_law z1 z2 z3).1 ns = some true := by
  have G : Gv ((s_law z1 z2 z3).1 ns) fun v => v = true := by
    unfold s_law p_law
    simp only [Option.bind_some, Option.map_some, if_true, id, Option.bind_assoc]
    refine gv_bind (gv_mono (h1 ns) fun row hrow => ?_)
    obtain ⟨hr, hr2⟩ := hrow
    refine gv_bind (gv_mono (h2 hr hr2 ⟨0, rfl⟩ (by decide)) fun v hv => ?_)
    rw [rngO_ok (by decide) (by decide) (by decide) (by decide)]
    simp only [Option.bind_some]
    refine gv_en (gv_mono (gv_forN (fun _ s => ∃ number' spot', s = (ns, row, spot', v.1, number', (), (), (), (), (), (), (), (), (), (), (), (), (), (), (), (), (), (), ()) ∧ Sp spot') (rngL 0 4) 0 _ ⟨_, _, rfl, hv.2⟩ (fun i x s hx hI => ?_) (R := fun s => True) (fun s hI => trivial)) fun o ho' => ?_)
    · obtain ⟨n', sp', rfl, hsp⟩ := hI
      refine gv_mono (h3 row hr hr2 _ _ _ _ _ hsp (mem_rng.mp hx)) fun o ho' => ?_
      obtain ⟨n2, sp2, rfl, h2⟩ := ho'
      exact ⟨_, rfl, _, _, rfl, h2⟩
    · obtain ⟨s, rfl, _⟩ := ho'
      exact ⟨_, rfl, gv_some rfl⟩
  obtain ⟨v, hv, e⟩ := G
  rw [hv, e]
theorem req_ok : ∀ k, z_require.1 true k = some () := l_req
theorem bt_ok : BtOk z_is_between := l_isbt z_is_integer fun x => rfl
theorem ships_ok : ShOk z_are_ships := l_ships z_is_sequence z_is_ship l_seq fun a b => l_ship z_is_sequence_2 z_is_between l_seq2 bt_ok a b
theorem rq_ok : RqOk z_require_quay := l_rq z_require z_are_ships z_is_between req_ok ships_ok bt_ok
theorem take_ok : TakeOk z__law_take := fun hr hr2 hs hl => d_take s__law_draw (fun a b c d => d_draw a b c d) hr hr2 hs hl
theorem hb_ok : HB z_hours_begun.1 N3 := fun {ships c h n i j k} H m hn => by
  rcases hn with rfl | rfl | rfl
  · exact hb1 H m
  · exact hb2 H m
  · exact hb3 H m
theorem hbb_ok : HB z_hours_begun_2.1 (· = 1) := fun {ships c h n i j k} H m hn => by
  cases hn
  exact hb1b H m
theorem to_ok : TO z_turn_of := fun H T => l_turn H T
theorem orders_ok : z_all_orders.1 3 = some prm := by decide +kernel
theorem perms_ok : z__law_perms.1 3 = some prm := by decide +kernel
theorem plain66 : ∀ ns : List Int, ns.length ≤ 63 → callF tab 60 f_law [.list (ns.map .int)] = .ok (.bool true) [] := fun ns _ => by
  have e := law_ok z__law_numbers z__law_take z_law_L1 d_numbers take_ok
    (fun row hr hr2 => by
      intro script spot part number a hs ha
      refine b1' z_law_L2 row hr hr2 ?_ script spot part number a hs ha
      intro script spot part number a b hs ha hb
      refine b2' z_law_L3 row hr hr2 ?_ script spot part number a b hs ha hb
      intro script spot part number a b c hs ha hb hc
      refine b3 z__law_take z_law_L4 z__law_perms z_law_L7 z_least_waiting z_waiting take_ok ?_ perms_ok ?_ (fun H => l_least z_require z_are_ships z_all_orders z_hours_waited z_hours_begun_2 req_ok ships_ok orders_ok l_waited hbb_ok H) (fun H T => l_waiting z_require_quay z_hours_waited z_hours_begun z_turn_of rq_ok l_waited hb_ok to_ok H T (.inr (.inr rfl))) script row spot part number a b c hr hr2 hs ha hb hc
      · intro script row spot part number ships berths cm h i j k H T hn
        exact l4 z_in_turn z_waiting z_last_free _ _ _ _ _ _ _ H T hn (l_inturn z_require_quay z_hours_begun z_turn_of rq_ok hb_ok to_ok H T hn) (l_waiting z_require_quay z_hours_waited z_hours_begun z_turn_of rq_ok l_waited hb_ok to_ok H T hn) (l_last z_require_quay z_hours_begun z_turn_of rq_ok hb_ok to_ok H T hn)
      · intro script row spot part number a b c ships best order cm h H ho
        exact l7 _ _ _ _ _ _ _ _ _ _ _ H ho) ns
  have h := (z_law.2 53).h (ns, ()) true e
  exact h.h
end Cw.J
end
open PySem
theorem PySem.Challenge.cw_cornwright_k66_all_small_ships_holds : PySem.Challenge.rw_cornwright_k66_all_small_ships.Holds := by
  exact law_holds Cw.J.plain66
