import PyProof.Rows.All
import Wide.All
import OpenK.AllK
import Wide.FinOn
import KE.DataCmp
import KE.DataEq
import KE.DataFind
import KE.DataMinMax
import KE.DataAny
import KE.DataIsa
import KE.SortData
import HandS.Base
import HandS.Call
import HandS.List
import HandS.Wide
import HandS.Flow
import HandS.Exc
import HandS.ExcOwn
import HandS.CallSlots
import HandS.Comp
import HandS.Words
import HandS.WordsExc
import HandS.Defaults
import HandS.TupAny
import HandS.Iter
import HandS.Zip
import HandS.Rev
import HandS.RevRange
import HandS.Conv
import HandS.TryOnly
import HandS.IsInst
import KE.KTupSum
import HandS.Head0
import HandS.Head1
import HandS.Head2
import HandS.HeadEnd
import HandS.HeadHook1
import HandS.HeadHook2
import KE.KStateDown
import HandS.Ends
import HandS.More
import PySem.Challenge.RW_cornwright_k69_all_small_famines
set_option Elab.async false
set_option linter.all false
set_option maxRecDepth 100000
set_option autoImplicit false
set_option maxHeartbeats 0
section
namespace Cw
open PySem
abbrev D := PyData

inductive BOp | add | sub | mul | fdiv | mod | pow
  deriving DecidableEq, Repr
inductive COp | eq | ne | lt | le | gt | ge | isn | ntn | inn | nin
  deriving DecidableEq, Repr
inductive Ty | int | bool | str | list | tuple
  deriving DecidableEq, Repr
inductive Bi | len | int | list | tuple | sum | min1 | max1 | sorted | all | any | abs | min2 | max2
  deriving DecidableEq, Repr
inductive Mt | index | count
  deriving DecidableEq, Repr
/-- a target -/
inductive Tg | nm (i : Nat) | tup (ts : List Tg)

inductive ME
  | var (i : Nat)
  | con (d : D)
  | tup (es : List ME)
  | lst (es : List ME)
  | bin (op : BOp) (a b : ME)
  | lrep (es : List ME) (b : ME)
  | neg (a : ME)
  | cmp (op : COp) (a b : ME)
  | chain (p q : COp) (a b c : ME)
  | and (a b : ME)
  | or (a b : ME)
  | not (a : ME)
  | ite (c a b : ME)
  | idx (a i : ME)
  | sidx (i : Nat) (e : ME)
  | slc (a : ME) (lo hi : Option ME)
  | call (f : Nat) (es : List ME)
  | bi (b : Bi) (es : List ME)
  | isa (a : ME) (ts : List Ty)
  | mt (m : Mt) (a : ME) (es : List ME)
  | comp (elt : ME) (t : Tg) (it : ME) (c : Option ME)
  | comp2 (elt : ME) (t : Tg) (it : ME) (c : Option ME) (t1 : Tg) (it1 : ME) (c1 : Option ME)
  | rng (a b : ME)
  | enum (a : ME)
  | zip (a b : ME)
  | rev (a : ME)

inductive Md | look | keep (is : List Nat) | io (is : List Nat)
inductive MS
  | asg (i k : Nat) (md : Md) (e : ME)
  | asgT (is : List Nat) (md : Md) (e : ME)
  | set (i : Nat) (k : ME) (md : Md) (e : ME)
  | aug (i : Nat) (op : BOp) (md : Md) (e : ME)
  | augS (i : Nat) (k : ME) (op : BOp) (md : Md) (e : ME)
  | app (i : Nat) (md : Md) (e : ME)
  | exp (md : Md) (e : ME)
  | ife (md : Md) (c : ME) (a b : List MS)
  | for (t : Tg) (md : Md) (it : ME) (body : List MS)
  | whl (md : Md) (c : ME) (body : List MS)
  | ret (k : Nat) (md : Md) (e : ME)
  | retv (i : Nat)
  | brk
  | cnt
  | pas
  | bot

def LIM : Nat := 16777216
def imm : D → Bool
  | .none | .bool _ | .int _ | .str _ => true
  | .tuple xs => immAll xs
  | _ => false
where immAll : List D → Bool
  | [] => true
  | x :: xs => imm x && immAll xs
def isMut : D → Bool
  | .list _ => true
  | .dict _ => true
  | _ => false
/-- a mutable thing whose items are not -/
def shal : D → Bool
  | .list xs => xs.all imm
  | .dict kvs => kvs.all fun p => imm p.2
  | d => imm d
def isInt : D → Option Int
  | .int i => some i
  | _ => none
def isBl : D → Option Bool
  | .bool b => some b
  | _ => none
def deepOk (a b : D) : Bool := decide (min a.depth b.depth ≤ 60)
def eqD (a b : D) : Option Bool := if a.plain && b.plain && deepOk a b then some (PyData.eqv a b) else none
def isNon : D → Bool
  | .none => true
  | _ => false
def ltD (a b : D) : Option Bool := if PySem.W.alike a b && !isNon a && deepOk a b then some (PySem.W.dataLt a b) else none
def mulOk (i j : Int) : Bool := decide ((-(2 ^ 64) < i ∧ i < 2 ^ 64) ∨ (-(2 ^ 64) < j ∧ j < 2 ^ 64) ∨ i.natAbs.log2 + j.natAbs.log2 < 1000000)
def divOk (j : Int) : Bool := decide (0 < j ∧ j.natAbs.log2 < 9000)
def binD : BOp → D → D → Option D
  | .add, .int a, .int b => some (.int (a + b))
  | .add, .str a, .str b => if a.length + b.length ≤ LIM then some (.str (a ++ b)) else none
  | .add, .list a, .list b => if a.length + b.length ≤ LIM then some (.list (a ++ b)) else none
  | .add, .tuple a, .tuple b => if a.length + b.length ≤ LIM then some (.tuple (a ++ b)) else none
  | .sub, .int a, .int b => some (.int (a - b))
  | .mul, .int a, .int b => if mulOk a b then some (.int (a * b)) else none
  | .fdiv, .int a, .int b => if divOk b then some (.int (a / b)) else none
  | .mod, .int a, .int b => if 0 < b then some (.int (a % b)) else none
  | .pow, .int a, .int b => if 0 ≤ b ∧ b ≤ 1000000 ∧ a.natAbs < 2 ^ 64 then some (.int (a ^ b.toNat)) else none
  | _, _, _ => none
def keyOf : D → Option (Sum Int Str)
  | .int i => some (.inl i)
  | .str s => some (.inr s)
  | _ => none
def dictGet (kvs : List (D × D)) (k : D) : Option D :=
  match keyOf k with
  | some q => (kvs.find? fun p => decide (keyOf p.1 = some q)).map (·.2)
  | none => none
def inD (x c : D) : Option Bool :=
  match c with
  | .list xs => if PyData.plainAll xs && x.plain && deepOk x c then some (xs.any fun y => PyData.eqv y x) else none
  | .tuple xs => if PyData.plainAll xs && x.plain && deepOk x c then some (xs.any fun y => PyData.eqv y x) else none
  | .dict kvs => if (keyOf x).isSome then some (dictGet kvs x).isSome else none
  | _ => none
def cmpD : COp → D → D → Option Bool
  | .eq, a, b => eqD a b
  | .ne, a, b => (eqD a b).map (!·)
  | .lt, a, b => ltD a b
  | .gt, a, b => ltD b a
  | .le, a, b => (ltD b a).map (!·)
  | .ge, a, b => (ltD a b).map (!·)
  | .isn, a, b => if isNon b then some (isNon a) else none
  | .ntn, a, b => if isNon b then some (!isNon a) else none
  | .inn, a, b => inD a b
  | .nin, a, b => (inD a b).map (!·)
def idxD : D → D → Option D
  | .list xs, .int i => L2.atI xs i
  | .tuple xs, .int i => L2.atI xs i
  | .dict kvs, k => dictGet kvs k
  | .str s, .int i => if s.length ≤ LIM then (L2.atI s.cps.toList i).map fun c => .str ⟨#[c]⟩ else none
  | _, _ => none
def cutL (xs : List D) (lo hi : Option Int) : List D := (xs.drop (HT.sIx xs.length 0 lo)).take (HT.sIx xs.length xs.length hi - HT.sIx xs.length 0 lo)
def slcD : D → Option Int → Option Int → Option D
  | .list xs, lo, hi => some (.list (cutL xs lo hi))
  | .tuple xs, lo, hi => some (.tuple (cutL xs lo hi))
  | _, _, _ => none
def truthD : D → Option Bool
  | .none => some false
  | .bool b => some b
  | .int n => some (n != 0)
  | .str x => if x.length ≤ LIM then some ((x.length : Int) != 0) else none
  | .list xs => some (!xs.isEmpty)
  | .tuple xs => some (!xs.isEmpty)
  | .dict kvs => some (!kvs.isEmpty)
def lenD : D → Option Int
  | .list xs => some xs.length
  | .tuple xs => some xs.length
  | .dict kvs => some kvs.length
  | .str x => if x.length ≤ LIM then some x.length else none
  | _ => none
/-- what a walk over it yields -/
def itemsD : D → Option (List D)
  | .list xs => some xs
  | .tuple xs => some xs
  | _ => none
def isaTy : Ty → D → Bool
  | .int, d => d.isInt
  | .bool, d => d.isBool
  | .str, d => d.isStr
  | .list, d => d.isList
  | .tuple, d => d.isTuple
def intsD : List D → Option (List Int)
  | [] => some []
  | .int i :: xs => (intsD xs).map (i :: ·)
  | _ => none
def alikeAllB (xs : List D) : Bool := xs.all (fun x => xs.all fun y => PySem.W.alike x y) && xs.all (fun x => !isNon x) && decide (PyData.depthAll xs ≤ 60)
def sortL (xs : List D) : List D := xs.mergeSort (PySem.W.dataLe false fun d : D => d)
def isTupNE : D → Bool
  | .tuple (_ :: _) => true
  | _ => false
def isTup : D → Bool
  | .tuple _ => true
  | _ => false
def sortOk (xs : List D) : Bool := xs.all (fun x => xs.all fun y => PySem.W.alike x y) && (xs.all isTupNE || xs.all fun x => !isNon x && !isTup x) && decide (PyData.depthAll xs ≤ 60)
def bls : List D → Option (List Bool)
  | [] => some []
  | .bool i :: xs => (bls xs).map (i :: ·)
  | _ => none
def biD : Bi → List D → Option D
  | .len, [a] => (lenD a).map .int
  | .int, [.int i] => some (.int i)
  | .list, [.list xs] => some (.list xs)
  | .list, [.tuple xs] => some (.list xs)
  | .tuple, [.list xs] => some (.tuple xs)
  | .tuple, [.tuple xs] => some (.tuple xs)
  | .sum, [.list xs] => (intsD xs).map fun ns => .int ns.sum
  | .sum, [.tuple xs] => (intsD xs).map fun ns => .int ns.sum
  | .min1, [.list (x :: xs)] => if alikeAllB (x :: xs) then some (PySem.W.minD x xs) else none
  | .max1, [.list (x :: xs)] => if alikeAllB (x :: xs) then some (PySem.W.maxD x xs) else none
  | .min1, [.tuple (x :: xs)] => if alikeAllB (x :: xs) then some (PySem.W.minD x xs) else none
  | .max1, [.tuple (x :: xs)] => if alikeAllB (x :: xs) then some (PySem.W.maxD x xs) else none
  | .sorted, [.list xs] => if sortOk xs then some (.list (sortL xs)) else none
  | .all, [.list xs] => (bls xs).map fun bs => .bool (bs.all id)
  | .any, [.list xs] => (bls xs).map fun bs => .bool (bs.any id)
  | .abs, [.int i] => some (.int (if i < 0 then -i else i))
  | .min2, [.int i, .int j] => some (.int (if j < i then j else i))
  | .max2, [.int i, .int j] => some (.int (if j > i then j else i))
  | _, _ => none
def mtD : Mt → D → List D → Option D
  | .index, .list xs, [x] => if PyData.plainAll xs && x.plain && deepOk x (.list xs) then ((PySem.SeqAt.dataPlace xs x).map fun n => .int n) else none
  | .count, .list xs, [x] => if PyData.plainAll xs && x.plain && deepOk x (.list xs) then some (.int ((xs.countP fun y => PyData.eqv y x : Nat) : Int)) else none
  | .index, .tuple xs, [x] => if PyData.plainAll xs && x.plain && deepOk x (.list xs) then ((PySem.SeqAt.dataPlace xs x).map fun n => .int n) else none
  | .count, .tuple xs, [x] => if PyData.plainAll xs && x.plain && deepOk x (.list xs) then some (.int ((xs.countP fun y => PyData.eqv y x : Nat) : Int)) else none
  | _, _, _ => none

/-- a slot: empty, a value, a list of its own, the caller's list to be changed, a list that may be looked into -/
inductive Slot | non | val (d : D) | own (k : Nat) (d : D) | mut (d : D) | prt (d : D)
abbrev Env := List Slot
structure Ex where
  cls : Nat
  val : D
inductive Out (α : Type)
  | ok (a : α) (r : Env)
  | exc (x : Ex) (r : Env)
  | bad
def Out.bind {α β : Type} (o : Out α) (f : α → Env → Out β) : Out β :=
  match o with
  | .ok a r => f a r
  | .exc x r => .exc x r
  | .bad => .bad
def lift {α : Type} (o : Option α) (r : Env) : Out α :=
  match o with
  | some a => .ok a r
  | none => .bad
/-- a call's outcome: the value, the changed lists behind -/
inductive OutC
  | ok (d : D) (os : List D)
  | exc (x : Ex) (os : List D)
  | bad
def getV (r : Env) (i : Nat) : Option D :=
  match r[i]? with
  | some (.val d) => some d
  | _ => none
/-- any slot, to be looked into -/
def getA (r : Env) (i : Nat) : Option D :=
  match r[i]? with
  | some (.val d) => some d
  | some (.own 1 d) => some d
  | some (.mut d) => some d
  | some (.prt d) => some d
  | _ => none
def getM (r : Env) (i : Nat) : Option D :=
  match r[i]? with
  | some (.own 1 d) => some d
  | some (.mut d) => some d
  | _ => none
/-- a changed thing back into its slot -/
def putM (r : Env) (i : Nat) (d : D) : Env :=
  match r[i]? with
  | some (.own 1 _) => r.set i (.own 1 d)
  | some (.mut _) => r.set i (.mut d)
  | _ => r
def frz (r : Env) : List Nat → Env
  | [] => r
  | i :: is => match r[i]? with
    | some (.own _ d) => frz (r.set i (.val d)) is
    | _ => frz r is
def frzS : Slot → Slot
  | .own _ d => .val d
  | .mut d => .val d
  | .prt _ => .non
  | x => x
def prtS : Slot → Slot
  | .own _ d => .prt d
  | .mut d => .prt d
  | x => x
def frzA (r : Env) : Env := r.map frzS
def prtA (r : Env) : Env := r.map prtS
/-- the lists of a frame have only unchangeable items -/
def shalE (r : Env) : Bool := r.all fun
  | .own _ d => shal d
  | .mut d => shal d
  | _ => true
/-- values as they were, lists as they are -/
def mixE : Env → Env → Env
  | .val d :: r, _ :: q => .val d :: mixE r q
  | .non :: r, _ :: q => .non :: mixE r q
  | .prt d :: r, _ :: q => .prt d :: mixE r q
  | _ :: r, x :: q => x :: mixE r q
  | _, q => q
mutual
def asgG : Tg → D → Env → Option Env
  | .nm i, d, r => some (r.set i (.val d))
  | .tup ts, d, r => match d with
    | .tuple ds => asgTs ts ds r
    | _ => none
def asgTs : List Tg → List D → Env → Option Env
  | [], ds, r => match ds with
    | [] => some r
    | _ => none
  | t :: ts, ds, r => match ds with
    | d :: ds => (asgG t d r).bind fun r' => asgTs ts ds r'
    | [] => none
end
mutual
def tgS : Tg → List Nat
  | .nm i => [i]
  | .tup ts => tgSs ts
def tgSs : List Tg → List Nat
  | [] => []
  | t :: ts => tgS t ++ tgSs ts
end
def wipeE (r : Env) : List Nat → Env
  | [] => r
  | v :: vs => (wipeE r vs).set v .non
/-- the slots of a comprehension's own names as they were -/
def unwipeE (r0 r : Env) : List Nat → Env
  | [] => r
  | v :: vs => (unwipeE r0 r vs).set v (r0.getD v .non)
/-- no list that is changed stands at these slots -/
def okW (r : Env) (vs : List Nat) : Bool := vs.all fun v => match r[v]? with
  | some (.own _ _) => false
  | some (.mut _) => false
  | _ => true
inductive Flow | nx | brk | cnt | ret (k : Nat) (d : D)

structure Fn where
  np : Nat
  ns : Nat
  io : List Nat
  fresh : Nat
  body : List MS

def loopC (f : D → Env → Out (Option D)) : List D → List D → Env → Out (List D)
  | [], acc, r => .ok acc r
  | x :: xs, acc, r => (f x r).bind fun o r' => match o with
    | some y => if acc.length < LIM then loopC f xs (acc ++ [y]) r' else .bad
    | none => loopC f xs acc r'
def loopC2 (f : D → List D → Env → Out (List D)) : List D → List D → Env → Out (List D)
  | [], acc, r => .ok acc r
  | x :: xs, acc, r => (f x acc r).bind fun acc' r' => loopC2 f xs acc' r'
def loopF (f : D → Env → Out Flow) : List D → Env → Out Flow
  | [], r => .ok .nx r
  | x :: xs, r => (f x r).bind fun o r' => match o with
    | .nx => loopF f xs r'
    | .cnt => loopF f xs r'
    | .brk => .ok .nx r'
    | .ret k d => .ok (.ret k d) r'
def loopW (t : Env → Out Bool) (f : Env → Out Flow) : Nat → Env → Out Flow
  | 0, _ => .bad
  | n + 1, r => (t r).bind fun b r1 => if b then (f r1).bind fun o r' => match o with
      | .nx => loopW t f n r'
      | .cnt => loopW t f n r'
      | .brk => .ok .nx r'
      | .ret k d => .ok (.ret k d) r'
    else .ok .nx r1
def rangeD (a b : Int) : List D := (List.range (b - a).toNat).map fun i => .int (a + (i : Nat))
/-- the arguments that are handed in to be changed: their slots -/
def ioSlots : List Nat → List ME → Option (List Nat)
  | [], _ => some []
  | i :: is, es => match es[i]? with
    | some (.var j) => (ioSlots is es).map (j :: ·)
    | _ => none
def putMs (r : Env) : List Nat → List D → Env
  | j :: js, d :: ds => putMs (putM r j d) js ds
  | _, _ => r

/-- nothing is let out -/
def Out.noX {α : Type} : Out α → Out α
  | .exc _ _ => .bad
  | o => o
def Out.wiped {α : Type} (o : Out α) (vs : List Nat) : Out α := o.bind fun a r => .ok a (wipeE r vs)
def rngD : D → D → Option D
  | .int i, .int j => if -(2 ^ 62) ≤ i ∧ i < 2 ^ 62 ∧ -(2 ^ 62) ≤ j ∧ j < 2 ^ 62 then some (.list (rangeD i j)) else none
  | _, _ => none
def enumD : D → Option D
  | .list xs => some (.list ((List.range xs.length).map fun i => .tuple [.int (i : Nat), xs.getD i .none]))
  | _ => none
def zipD : D → D → Option D
  | .list xs, .list ys => some (.list ((xs.zip ys).map fun p => .tuple [p.1, p.2]))
  | .tuple xs, .tuple ys => some (.list ((xs.zip ys).map fun p => .tuple [p.1, p.2]))
  | _, _ => none
def revD : D → Option D
  | .list xs => some (.list xs.reverse)
  | .tuple xs => some (.list xs.reverse)
  | _ => none
def repD (ds : List D) : D → Option D
  | .int n => if -(2 ^ 63) ≤ n ∧ n < 2 ^ 63 ∧ ds.length * n.toNat ≤ LIM then some (.list (List.replicate n.toNat ds).flatten) else none
  | _ => none
def tru (o : Out D) : Out Bool := o.bind fun x r => lift (truthD x) r
section
variable (T : Nat → Option Fn) (call : Nat → List D → OutC)
mutual
def evE : ME → Env → Out D
  | .var i, r => lift (getV r i) r
  | .con d, r => .ok d r
  | .tup es, r => (evEs es r).bind fun ds r' => if ds.length ≤ LIM then .ok (.tuple ds) r' else .bad
  | .lst es, r => (evEs es r).bind fun ds r' => if ds.length ≤ LIM then .ok (.list ds) r' else .bad
  | .bin op a b, r => (evE a r).bind fun x r1 => (evE b r1).bind fun y r2 => lift (binD op x y) r2
  | .lrep es b, r => (evEs es r).bind fun ds r1 => if ds.length ≤ LIM then (evE b r1).bind fun y r2 => lift (repD ds y) r2 else .bad
  | .neg a, r => (evE a r).bind fun x r1 => lift ((isInt x).map fun i => .int (-i)) r1
  | .cmp op a b, r => (evE a r).bind fun x r1 => (evE b r1).bind fun y r2 => lift ((cmpD op x y).map .bool) r2
  | .chain p q a b c, r => (evE a r).bind fun x r1 => (evE b r1).bind fun y r2 => (lift (cmpD p x y) r2).bind fun k r3 =>
      if k then (evE c r3).bind fun z r4 => lift ((cmpD q y z).map .bool) r4 else .ok (.bool false) r3
  | .and a b, r => (evE a r).bind fun x r1 => (lift (truthD x) r1).bind fun k r2 => if k then evE b r2 else .ok x r2
  | .or a b, r => (evE a r).bind fun x r1 => (lift (truthD x) r1).bind fun k r2 => if k then .ok x r2 else evE b r2
  | .not a, r => (evE a r).bind fun x r1 => lift ((truthD x).map fun k => .bool (!k)) r1
  | .ite c a b, r => (tru (evE c r)).bind fun k r1 => if k then evE a r1 else evE b r1
  | .idx a i, r => (evE a r).bind fun x r1 => (evE i r1).bind fun y r2 => lift (idxD x y) r2
  | .sidx i e, r => (lift (getA r i) r).bind fun _ r0 => (evE e r0).bind fun y r1 => (lift (getA r1 i) r1).bind fun x r2 => lift (idxD x y) r2
  | .slc a lo hi, r => (evE a r).bind fun x r1 => (evO lo r1).bind fun l r2 => (evO hi r2).bind fun h r3 => lift (slcD x l h) r3
  | .call f es, r => match T f with
    | none => .bad
    | some fn => match ioSlots fn.io es with
      | none => .bad
      | some js => if !decide js.Nodup then .bad else (evAs fn.io 0 es r).bind fun ds r1 => match call f ds with
        | .ok d os => if os.length = js.length then .ok d (putMs r1 js os) else .bad
        | .exc x os => if os.length = js.length then .exc x (putMs r1 js os) else .bad
        | .bad => .bad
  | .bi b es, r => (evEs es r).bind fun ds r1 => lift (biD b ds) r1
  | .isa a ts, r => (evE a r).bind fun x r1 => if x.plain then .ok (.bool (ts.any fun t => isaTy t x)) r1 else .bad
  | .mt m a es, r => (evE a r).bind fun x r1 => (evEs es r1).bind fun ds r2 => lift (mtD m x ds) r2
  | .comp elt t it c, r => ((evE it r).bind fun x r1 => lift (itemsD x) r1).bind fun xs r1 =>
      if okW r1 (tgS t) then (loopC (fun x rr => (match asgG t x rr with
        | none => .bad
        | some r2 => (evC c r2).bind fun k r3 => if k then (evE elt r3).bind fun y r4 => .ok (some y) r4 else .ok none r3 : Out (Option D)).wiped (tgS t)) xs [] (wipeE r1 (tgS t))).noX.bind fun ys r' =>
          .ok (.list ys) (unwipeE r1 r' (tgS t)) else .bad
  | .comp2 elt t it c t1 it1 c1, r => ((evE it r).bind fun x r1 => lift (itemsD x) r1).bind fun xs r1 =>
      if okW r1 (tgS t ++ tgS t1) then (loopC2 (fun x acc rr => (match asgG t x rr with
        | none => .bad
        | some r2 => (evC c r2).bind fun k r3 => if k then ((evE it1 r3).bind fun x r1 => lift (itemsD x) r1).bind fun zs r4 =>
            loopC (fun w rq => (match asgG t1 w rq with
              | none => .bad
              | some r5 => (evC c1 r5).bind fun k1 r6 => if k1 then (evE elt r6).bind fun y r7 => .ok (some y) r7 else .ok none r6 : Out (Option D)).wiped (tgS t1)) zs acc (wipeE r4 (tgS t1))
          else .ok acc r3 : Out (List D)).wiped (tgS t ++ tgS t1)) xs [] (wipeE r1 (tgS t ++ tgS t1))).noX.bind fun ys r' =>
          .ok (.list ys) (unwipeE r1 r' (tgS t ++ tgS t1)) else .bad
  | .rng a b, r => (evE a r).bind fun x r1 => (evE b r1).bind fun y r2 => lift (rngD x y) r2
  | .enum a, r => (evE a r).bind fun x r1 => lift (enumD x) r1
  | .zip a b, r => (evE a r).bind fun x r1 => (evE b r1).bind fun y r2 => lift (zipD x y) r2
  | .rev a, r => (evE a r).bind fun x r1 => lift (revD x) r1
def evEs : List ME → Env → Out (List D)
  | [], r => .ok [] r
  | e :: es, r => (evE e r).bind fun d r1 => (evEs es r1).bind fun ds r2 => .ok (d :: ds) r2
/-- arguments: those at the places io are handed over as they are -/
def evAs (io : List Nat) : Nat → List ME → Env → Out (List D)
  | _, [], r => .ok [] r
  | n, e :: es, r => if io.contains n then
      match e with
      | .var j => (lift (getM r j) r).bind fun _ r0 => (evAs io (n + 1) es r0).bind fun ds r2 => match getM r2 j with
        | some d => .ok (d :: ds) r2
        | none => .bad
      | _ => .bad
    else (evE e r).bind fun d r1 => (evAs io (n + 1) es r1).bind fun ds r2 => .ok (d :: ds) r2
def evO : Option ME → Env → Out (Option Int)
  | none, r => .ok none r
  | some e, r => (evE e r).bind fun x r1 => match x with
    | .int i => .ok (some i) r1
    | _ => .bad
/-- a comprehension's test -/
def evC : Option ME → Env → Out Bool
  | none, r => .ok true r
  | some e, r => tru (evE e r)
end
/-- the same frame behind it -/
def Out.as {α : Type} (o : Out α) (r : Env) : Out α :=
  match o with
  | .ok a _ => .ok a r
  | .exc x _ => .exc x r
  | .bad => .bad
/-- a test -/
def evT (md : Md) (e : ME) (r : Env) : Out Bool :=
  match md with
  | .look => (tru (evE T call e (frzA r))).as r
  | .keep is => (tru (evE T call e (prtA (frz r is)))).as (frz r is)
  | .io is => tru (evE T call e (frz r is))
/-- a value; k = 1: a list is new -/
def evM (k : Nat) (md : Md) (e : ME) (r : Env) : Out D :=
  match md with
  | .look => ((evE T call e (frzA r)).as r).bind fun d r1 => if imm d || (k == 1 && shal d) then .ok d r1 else .bad
  | .keep is => (evE T call e (prtA (frz r is))).as (frz r is)
  | .io is => (evE T call e (frz r is)).bind fun d r1 => if k == 1 && isMut d then (if shalE r1 then .ok d (mixE (frz r is) r1) else .bad) else .ok d r1
/-- what a loop walks -/
def evI (md : Md) (e : ME) (r : Env) : Out (List D) :=
  match md with
  | .look => ((evE T call e (frzA r)).bind fun x r1 => lift (itemsD x) r1).as r
  | .keep is => ((evE T call e (prtA (frz r is))).bind fun x r1 => lift (itemsD x) r1).as (frz r is)
  | .io is => (evE T call e (frz r is)).bind fun x r1 => lift (itemsD x) r1
def setD (d : D) (k v : D) : Option D :=
  match d, k with
  | .list xs, .int i => (L2.ixN xs.length i).map fun j => .list (xs.set j v)
  | _, _ => none
def inplD : BOp → D → D → Option D
  | .add, .int a, .int b => some (.int (a + b))
  | .sub, .int a, .int b => some (.int (a - b))
  | _, _, _ => none
def appD : D → D → Option D
  | .list xs, v => if xs.length < LIM then some (.list (xs ++ [v])) else none
  | _, _ => none
mutual
def evS : MS → Env → Out Flow
  | .asg i k md e, r => (evM T call k md e r).bind fun d r1 => .ok .nx (r1.set i (if k == 1 && isMut d then .own 1 d else .val d))
  | .asgT is md e, r => (evM T call 0 md e r).bind fun d r1 => (lift (asgG (.tup (is.map .nm)) d r1) r1).bind fun r2 _ => .ok .nx r2
  | .set i kx md e, r => (evM T call 0 md e r).bind fun v r1 => (lift (getM r1 i) r1).bind fun _ r2 => (evM T call 0 (.keep []) kx r2).bind fun k r3 =>
      (lift (getM r3 i) r3).bind fun d r4 => (lift (setD d k v) r4).bind fun d' r5 => .ok .nx (putM r5 i d')
  | .aug i op md e, r => (lift (getV r i) r).bind fun x r1 => (evM T call 0 md e r1).bind fun y r2 => (lift (inplD op x y) r2).bind fun z r3 => .ok .nx (r3.set i (.val z))
  | .augS i kx op md e, r => (lift (getM r i) r).bind fun _ r => (evM T call 0 (.keep []) kx r).bind fun k r1 => (lift (getM r1 i) r1).bind fun d r2 => (lift (idxD d k) r2).bind fun x r3 =>
      (evM T call 0 md e r3).bind fun y r4 => (lift (inplD op x y) r4).bind fun z r5 => (lift (getM r5 i) r5).bind fun d2 r6 =>
        (lift (setD d2 k z) r6).bind fun d' r7 => .ok .nx (putM r7 i d')
  | .app i md e, r => (lift (getM r i) r).bind fun _ r => (evM T call 0 md e r).bind fun v r1 => (lift (getM r1 i) r1).bind fun d r2 => (lift (appD d v) r2).bind fun d' r3 => .ok .nx (putM r3 i d')
  | .exp md e, r => (evM T call 0 md e r).bind fun _ r1 => .ok .nx r1
  | .ife md c a b, r => (evT T call md c r).bind fun k r1 => if k then evSs a r1 else evSs b r1
  | .for t md it body, r => (evI T call md it r).bind fun xs r1 =>
      loopF (fun y rr => match asgG t y rr with
        | none => .bad
        | some r2 => evSs body r2) xs r1
  | .whl md c body, r => loopW (fun rr => evT T call md c rr) (fun rr => evSs body rr) 100000 r
  | .ret k md e, r => (evM T call k md e r).bind fun d r1 => .ok (.ret k d) r1
  | .retv i, r => match r[i]? with
    | some (.own 1 d) => .ok (.ret 1 d) r
    | some (.val d) => .ok (.ret 0 d) r
    | _ => .bad
  | .brk, r => .ok .brk r
  | .cnt, r => .ok .cnt r
  | .pas, r => .ok .nx r
  | .bot, _ => .bad
def evSs : List MS → Env → Out Flow
  | [], r => .ok .nx r
  | s :: ss, r => (evS s r).bind fun o r1 => match o with
    | .nx => evSs ss r1
    | o => .ok o r1
end
end
def startE (fn : Fn) (ds : List D) : Env := ((List.range ds.length).zip ds).map (fun p => if fn.io.contains p.1 then Slot.mut p.2 else Slot.val p.2) ++ List.replicate (fn.ns - ds.length) .non
def outsE (r : Env) : List Nat → Option (List D)
  | [] => some []
  | i :: is => match r[i]? with
    | some (.mut d) => (outsE r is).map (d :: ·)
    | _ => none
def finE (fn : Fn) : Out Flow → OutC
  | .ok .nx r => match outsE r fn.io with
    | some os => .ok .none os
    | none => .bad
  | .ok (.ret k d) r => if fn.fresh == 0 || k == 1 || imm d then match outsE r fn.io with
    | some os => .ok d os
    | none => .bad else .bad
  | .exc x r => match outsE r fn.io with
    | some os => .exc x os
    | none => .bad
  | _ => .bad
def callF (T : Nat → Option Fn) : Nat → Nat → List D → OutC
  | 0, _, _ => .bad
  | n + 1, f, ds => match T f with
    | none => .bad
    | some fn => if ds.length = fn.np then finE fn (evSs T (callF T n) fn.body (startE fn ds)) else .bad
end Cw
end

section
namespace Cw
open PySem PySem.Spec PyProof.Rows L2

abbrev Fr := PySem.W.Frag
def LstAt (K : Fr) (H : Hp) (S : Addr → Prop) (a : Addr) (xs : List V) : Prop :=
  (Rd H a (.lst xs) ∧ ¬ S a) ∨ ∃ (o : Obj) (its : Array Value) (n : Nat), K.lookup a = some o ∧ o.cls = .type "list" ∧ o.dict = none ∧ o.data = .seq its n ∧ its.size ≤ sizeLine ∧ Vals xs its.toList
def TupAt (K : Fr) (H : Hp) (S : Addr → Prop) (a : Addr) (xs : List V) : Prop :=
  (Rd H a (.tup xs) ∧ ¬ S a) ∨ ∃ (o : Obj) (its : Array Value) (n : Nat), K.lookup a = some o ∧ o.cls = .type "tuple" ∧ o.data = .seq its n ∧ its.size ≤ sizeLine ∧ Vals xs its.toList
mutual
inductive Rep (K : Fr) (H : Hp) (S : Addr → Prop) : V → D → Prop
  | non : Rep K H S .non .none
  | bl (b : Bool) : Rep K H S (.bl b) (.bool b)
  | int (i : Int) : Rep K H S (.int i) (.int i)
  | str (x : Str) : Rep K H S (.str x) (.str x)
  | lst {a : Addr} {xs : List V} {ds : List D} : LstAt K H S a xs → Reps K H S xs ds → Rep K H S (.ref a) (.list ds)
  | tup {a : Addr} {xs : List V} {ds : List D} : TupAt K H S a xs → Reps K H S xs ds → Rep K H S (.ref a) (.tuple ds)
inductive Reps (K : Fr) (H : Hp) (S : Addr → Prop) : List V → List D → Prop
  | nil : Reps K H S [] []
  | cons {v : V} {vs : List V} {d : D} {ds : List D} : Rep K H S v d → Reps K H S vs ds → Reps K H S (v :: vs) (d :: ds)
end
def Keep (M : Addr → Prop) (H H' : Hp) : Prop := (∀ a o, H a = some o → ¬ M a → H' a = some o) ∧ ∀ a, H a ≠ none → H' a ≠ none
theorem Keep.refl {M : Addr → Prop} {H : Hp} : Keep M H H := ⟨fun _ _ e _ => e, fun _ e => e⟩
theorem Keep.trans {M : Addr → Prop} {H H1 H2 : Hp} (a : Keep M H H1) (b : Keep M H1 H2) : Keep M H H2 := ⟨fun x o e n => b.1 x o (a.1 x o e n) n, fun x e => b.2 x (a.2 x e)⟩
theorem Keep.weak {M M' : Addr → Prop} {H H1 : Hp} (a : Keep M H H1) (h : ∀ x, M x → M' x) : Keep M' H H1 := ⟨fun x o e n => a.1 x o e (fun z => n (h x z)), a.2⟩
theorem Keep.new {M : Addr → Prop} {H : Hp} {p : Addr} {o : HO} (h : H p = none) : Keep M H (upd H p o) :=
  ⟨fun a u e _ => by rw [upd_ne (ne_of_none e h)]; exact e, fun a e => by
    by_cases q : a = p
    · rw [q, upd_same]; exact fun z => nomatch z
    · rw [upd_ne q]; exact e⟩
theorem Keep.put {M : Addr → Prop} {H : Hp} {p : Addr} {o : HO} (h : M p) : Keep M H (upd H p o) :=
  ⟨fun a u e n => by rw [upd_ne (fun z => by subst z; exact n h)]; exact e, fun a e => by
    by_cases q : a = p
    · rw [q, upd_same]; exact fun z => nomatch z
    · rw [upd_ne q]; exact e⟩
theorem Keep.same {M : Addr → Prop} {H H' : Hp} (h : Same H H') : Keep M H H' := ⟨fun a o e _ => h a o e, fun a e => by
  cases q : H a with
  | none => exact absurd q e
  | some o => rw [h a o q]; exact fun z => nomatch z⟩
section
variable {K : Fr} {H H' : Hp} {S S' M : Addr → Prop}
theorem rd_some {a : Addr} {u : HO} (h : Rd H a u) : ∃ o, H a = some o := by
  rcases h with h | ⟨o, h⟩ <;> exact ⟨_, h⟩
theorem rd_keep {a : Addr} {u : HO} (h : Rd H a u) (k : Keep M H H') (n : ¬ M a) : Rd H' a u := by
  rcases h with h | ⟨o, h⟩
  · exact .inl (k.1 _ _ h n)
  · exact .inr ⟨o, k.1 _ _ h n⟩
theorem LstAt.sq {a : Addr} {xs : List V} (h : LstAt K H S a xs) : SqL K H a xs := by
  rcases h with ⟨h, _⟩ | h
  · exact .inl h
  · exact .inr h
theorem TupAt.sq {a : Addr} {xs : List V} (h : TupAt K H S a xs) : SqT K H a xs := by
  rcases h with ⟨h, _⟩ | h
  · exact .inl h
  · exact .inr h
theorem LstAt.keep {a : Addr} {xs : List V} (h : LstAt K H S a xs) (k : Keep M H H') (m : ∀ a, M a → S a) : LstAt K H' S a xs := by
  rcases h with ⟨h, n⟩ | h
  · exact .inl ⟨rd_keep h k fun z => n (m _ z), n⟩
  · exact .inr h
theorem TupAt.keep {a : Addr} {xs : List V} (h : TupAt K H S a xs) (k : Keep M H H') (m : ∀ a, M a → S a) : TupAt K H' S a xs := by
  rcases h with ⟨h, n⟩ | h
  · exact .inl ⟨rd_keep h k fun z => n (m _ z), n⟩
  · exact .inr h
theorem LstAt.mono {a : Addr} {xs : List V} (h : LstAt K H S a xs) (m : ∀ a, S' a → S a ∨ H a = none) : LstAt K H S' a xs := by
  rcases h with ⟨h, n⟩ | h
  · refine .inl ⟨h, fun z => ?_⟩
    rcases m a z with q | q
    · exact n q
    · obtain ⟨o, e⟩ := rd_some h
      rw [q] at e; cases e
  · exact .inr h
theorem TupAt.mono {a : Addr} {xs : List V} (h : TupAt K H S a xs) (m : ∀ a, S' a → S a ∨ H a = none) : TupAt K H S' a xs := by
  rcases h with ⟨h, n⟩ | h
  · refine .inl ⟨h, fun z => ?_⟩
    rcases m a z with q | q
    · exact n q
    · obtain ⟨o, e⟩ := rd_some h
      rw [q] at e; cases e
  · exact .inr h
mutual
theorem Rep.keep {v : V} {d : D} : Rep K H S v d → Keep M H H' → (∀ a, M a → S a) → Rep K H' S v d
  | .non, _, _ => .non
  | .bl b, _, _ => .bl b
  | .int i, _, _ => .int i
  | .str x, _, _ => .str x
  | .lst h r, k, m => .lst (h.keep k m) (r.keep k m)
  | .tup h r, k, m => .tup (h.keep k m) (r.keep k m)
theorem Reps.keep {vs : List V} {ds : List D} : Reps K H S vs ds → Keep M H H' → (∀ a, M a → S a) → Reps K H' S vs ds
  | .nil, _, _ => .nil
  | .cons h r, k, m => .cons (h.keep k m) (r.keep k m)
end
mutual
theorem Rep.mono {v : V} {d : D} : Rep K H S v d → (∀ a, S' a → S a ∨ H a = none) → Rep K H S' v d
  | .non, _ => .non
  | .bl b, _ => .bl b
  | .int i, _ => .int i
  | .str x, _ => .str x
  | .lst h r, m => .lst (h.mono m) (r.mono m)
  | .tup h r, m => .tup (h.mono m) (r.mono m)
theorem Reps.mono {vs : List V} {ds : List D} : Reps K H S vs ds → (∀ a, S' a → S a ∨ H a = none) → Reps K H S' vs ds
  | .nil, _ => .nil
  | .cons h r, m => .cons (h.mono m) (r.mono m)
end
mutual
theorem Rep.imm {v : V} {d : D} : Rep K H S v d → imm d = true → (∀ a, S' a → S a ∨ ∃ xs, H a = some (.lst xs)) → Rep K H S' v d
  | .non, _, _ => .non
  | .bl b, _, _ => .bl b
  | .int i, _, _ => .int i
  | .str x, _, _ => .str x
  | .lst h r, i, _ => by simp [Cw.imm] at i
  | .tup h r, i, m => by
    refine .tup ?_ (r.imm (by simpa [Cw.imm] using i) m)
    rcases h with ⟨h, n⟩ | h
    · refine .inl ⟨h, fun z => ?_⟩
      rcases m _ z with q | ⟨xs, q⟩
      · exact n q
      · rcases h with h | ⟨o, h⟩ <;> (rw [q] at h; cases h)
    · exact .inr h
theorem Reps.imm {vs : List V} {ds : List D} : Reps K H S vs ds → imm.immAll ds = true → (∀ a, S' a → S a ∨ ∃ xs, H a = some (.lst xs)) → Reps K H S' vs ds
  | .nil, _, _ => .nil
  | .cons h r, i, m => by
    simp only [Cw.imm.immAll, Bool.and_eq_true] at i
    exact .cons (h.imm i.1 m) (r.imm i.2 m)
end
theorem Reps.length {vs : List V} {ds : List D} : Reps K H S vs ds → vs.length = ds.length
  | .nil => rfl
  | .cons _ r => by simp [r.length]
theorem Reps.get {vs : List V} {ds : List D} {i : Nat} {d : D} : Reps K H S vs ds → ds[i]? = some d → ∃ v, vs[i]? = some v ∧ Rep K H S v d := by
  intro h
  induction vs generalizing ds i with
  | nil => cases h; intro e; simp at e
  | cons v vs ih =>
    cases h with
    | cons r rs =>
      cases i with
      | zero => intro e; simp at e; subst e; exact ⟨v, rfl, r⟩
      | succ i => intro e; simpa using ih rs (by simpa using e)
theorem Reps.getV {vs : List V} {ds : List D} {i : Nat} {v : V} : Reps K H S vs ds → vs[i]? = some v → ∃ d, ds[i]? = some d ∧ Rep K H S v d := by
  intro h
  induction vs generalizing ds i with
  | nil => intro e; simp at e
  | cons v' vs ih =>
    cases h with
    | cons r rs =>
      cases i with
      | zero => intro e; simp at e; subst e; exact ⟨_, rfl, r⟩
      | succ i => intro e; simpa using ih rs (by simpa using e)
theorem Reps.append {vs ws : List V} {ds es : List D} (h : Reps K H S vs ds) (g : Reps K H S ws es) : Reps K H S (vs ++ ws) (ds ++ es) := by
  induction vs generalizing ds with
  | nil => cases h; exact g
  | cons v vs ih => cases h with | cons r rs => exact .cons r (ih rs)
theorem Reps.take {vs : List V} {ds : List D} (n : Nat) (h : Reps K H S vs ds) : Reps K H S (vs.take n) (ds.take n) := by
  induction vs generalizing ds n with
  | nil => cases h; simp; exact .nil
  | cons v vs ih =>
    cases h with
    | cons r rs => cases n with
      | zero => exact .nil
      | succ n => exact .cons r (ih n rs)
theorem Reps.drop {vs : List V} {ds : List D} (n : Nat) (h : Reps K H S vs ds) : Reps K H S (vs.drop n) (ds.drop n) := by
  induction vs generalizing ds n with
  | nil => cases h; simp; exact .nil
  | cons v vs ih =>
    cases h with
    | cons r rs => cases n with
      | zero => exact .cons r rs
      | succ n => exact ih n rs
theorem Reps.set {vs : List V} {ds : List D} {v : V} {d : D} (i : Nat) (h : Reps K H S vs ds) (g : Rep K H S v d) : Reps K H S (vs.set i v) (ds.set i d) := by
  induction vs generalizing ds i with
  | nil => cases h; simp; exact .nil
  | cons w vs ih =>
    cases h with
    | cons r rs => cases i with
      | zero => exact .cons g rs
      | succ i => exact .cons r (ih i rs)
theorem Reps.reverse {vs : List V} {ds : List D} (h : Reps K H S vs ds) : Reps K H S vs.reverse ds.reverse := by
  induction vs generalizing ds with
  | nil => cases h; exact .nil
  | cons v vs ih =>
    cases h with
    | cons r rs => simp only [List.reverse_cons]; exact (ih rs).append (.cons r .nil)
theorem Reps.rep {vs : List V} {ds : List D} (h : Reps K H S vs ds) : ∀ n, Reps K H S (List.replicate n vs).flatten (List.replicate n ds).flatten
  | 0 => .nil
  | n + 1 => by simp only [List.replicate_succ, List.flatten_cons]; exact h.append (h.rep n)
theorem Reps.cut {vs : List V} {ds : List D} (h : Reps K H S vs ds) (lo hi : Option Int) : Reps K H S (L2.cutV vs lo hi) (cutL ds lo hi) := by
  unfold L2.cutV cutL
  rw [h.length]
  exact (h.drop _).take _
mutual
theorem Rep.reads {X : Cx} {pins : List (Addr × Obj)} {σ : L2.St} {s : Shared} (I : Inv X pins σ H s) : ∀ {d : D} {v : V} {u : Value}, Rep X.K H S v d → RelV v u → ∃ as, Reads s.heap u d as
  | _, _, _, .non, r => by cases r; exact ⟨_, Reads.none⟩
  | _, _, _, .bl b, r => by cases r; exact ⟨_, Reads.bool b⟩
  | _, _, _, .int i, r => by obtain ⟨t, rfl⟩ := r; exact ⟨_, Reads.int i t⟩
  | _, _, _, .str x, r => by obtain ⟨t, rfl⟩ := r; exact ⟨_, Reads.str x t⟩
  | _, _, _, .lst h hs, r => by
    cases r
    obtain ⟨its, rv, ⟨o, n, ho, hc, _, hd⟩, _⟩ := I.list h.sq
    obtain ⟨as, hr⟩ := Reps.reads I hs rv
    exact ⟨_, Reads.list ho hc hd hr⟩
  | _, _, _, .tup h hs, r => by
    cases r
    obtain ⟨its, rv, ⟨o, ho, hc, n, hd⟩, _⟩ := I.tuple h.sq
    obtain ⟨as, hr⟩ := Reps.reads I hs rv
    exact ⟨_, Reads.tuple ho hc hd hr⟩
theorem Reps.reads {X : Cx} {pins : List (Addr × Obj)} {σ : L2.St} {s : Shared} (I : Inv X pins σ H s) : ∀ {ds : List D} {vs : List V} {us : List Value}, Reps X.K H S vs ds → Vals vs us → ∃ as, ReadsAll s.heap us ds as
  | _, _, _, .nil, r => by cases r; exact ⟨_, ReadsAll.nil⟩
  | _, _, _, .cons h hs, r => by
    cases r with
    | cons r1 r2 =>
      obtain ⟨as, q1⟩ := Rep.reads I h r1
      obtain ⟨bs, q2⟩ := Reps.reads I hs r2
      exact ⟨_, ReadsAll.cons q1 q2⟩
end
end
end Cw
end

section
namespace Cw
open PySem PySem.Spec PyProof.Rows L2

def inF (Fs : List (Option Addr)) (a : Addr) : Prop := some a ∈ Fs
/-- what is to be kept away from; the lists of ours that are only looked into -/
structure Prot where
  a : Addr → Prop
  p : Addr → Prop
instance : CoeFun Prot fun _ => Addr → Prop := ⟨Prot.a⟩
def Prot.add (A : Prot) (x : Addr) : Prot := ⟨fun a => A.a a ∨ a = x, A.p⟩
def Sv (A0 : Prot) (Fs : List (Option Addr)) (a : Addr) : Prop := A0 a ∨ inF Fs a
/-- an owned list at a -/
def OwnL (K : Fr) (H : Hp) (S : Addr → Prop) (a : Addr) (d : D) : Prop := ∃ xs ds, d = .list ds ∧ H a = some (.lst xs) ∧ Reps K H S xs ds
structure Good (K : Fr) (A0 : Prot) (σ : L2.St) (H : Hp) (r : Env) (Fs : List (Option Addr)) : Prop where
  len : Fs.length = r.length
  slen : σ.length = r.length
  val : ∀ (i : Nat) d, r[i]? = some (.val d) → ∃ v, σ[i]? = some (some v) ∧ Rep K H (Sv A0 Fs) v d
  own : ∀ (i k : Nat) d, r[i]? = some (.own k d) → k = 1 ∧ ∃ a, Fs[i]? = some (some a) ∧ σ[i]? = some (some (.ref a)) ∧ ¬ A0 a ∧ OwnL K H (Sv A0 Fs) a d
  chg : ∀ (i : Nat) d, r[i]? = some (.mut d) → ∃ a, Fs[i]? = some (some a) ∧ σ[i]? = some (some (.ref a)) ∧ A0 a ∧ OwnL K H (Sv A0 Fs) a d
  prt : ∀ (i : Nat) d, r[i]? = some (.prt d) → ∃ a, σ[i]? = some (some (.ref a)) ∧ A0.p a ∧ OwnL K H (Sv A0 Fs) a d
  pal : ∀ a, A0.p a → ¬ inF Fs a ∧ H a ≠ none
  inj : ∀ (i j : Nat) a, Fs[i]? = some (some a) → Fs[j]? = some (some a) → i = j
  emp : ∀ (i : Nat) a, Fs[i]? = some (some a) → (∃ d, r[i]? = some (.own 1 d)) ∨ ∃ d, r[i]? = some (.mut d)
  al : ∀ a, A0 a → H a ≠ none
section
variable {K : Fr} {H H' : Hp} {S : Addr → Prop} {A0 : Prot} {σ : L2.St} {r : Env} {Fs : List (Option Addr)}
theorem Good.ownAt (G : Good K A0 σ H r Fs) {i : Nat} {a : Addr} (h : Fs[i]? = some (some a)) : ∃ xs, H a = some (.lst xs) := by
  rcases G.emp i a h with ⟨d, e⟩ | ⟨d, e⟩
  · obtain ⟨_, b, h1, _, _, xs, _, _, h2, _⟩ := G.own i 1 d e
    rw [h] at h1; cases h1; exact ⟨xs, h2⟩
  · obtain ⟨b, h1, _, _, xs, _, _, h2, _⟩ := G.chg i d e
    rw [h] at h1; cases h1; exact ⟨xs, h2⟩
theorem Good.lstF (G : Good K A0 σ H r Fs) {a : Addr} (h : inF Fs a) : ∃ xs, H a = some (.lst xs) := by
  obtain ⟨i, hi⟩ := List.mem_iff_getElem?.mp h
  exact G.ownAt hi
theorem Good.alS (G : Good K A0 σ H r Fs) : ∀ a, Sv A0 Fs a → H a ≠ none := fun a h => by
  rcases h with h | h
  · exact G.al a h
  · obtain ⟨xs, e⟩ := G.lstF h
    rw [e]; exact fun z => nomatch z
theorem OwnL.keep {M : Addr → Prop} {a : Addr} {d : D} (h : OwnL K H S a d) (k : Keep M H H') (m : ∀ a, M a → S a) (n : ¬ M a) : OwnL K H' S a d := by
  obtain ⟨xs, ds, rfl, e, r⟩ := h
  exact ⟨xs, ds, rfl, k.1 _ _ e n, r.keep k m⟩
/-- where nothing of ours was changed -/
theorem Good.keep0 (G : Good K A0 σ H r Fs) (k : Keep (fun _ => False) H H') : Good K A0 σ H' r Fs where
  len := G.len
  slen := G.slen
  val := fun i d e => let ⟨v, h, q⟩ := G.val i d e; ⟨v, h, q.keep k fun _ z => z.elim⟩
  own := fun i k' d e => let ⟨ek, a, h1, h2, h3, q⟩ := G.own i k' d e; ⟨ek, a, h1, h2, h3, q.keep k (fun _ z => z.elim) id⟩
  chg := fun i d e => let ⟨a, h1, h2, h3, q⟩ := G.chg i d e; ⟨a, h1, h2, h3, q.keep k (fun _ z => z.elim) id⟩
  prt := fun i d e => let ⟨a, h1, h2, q⟩ := G.prt i d e; ⟨a, h1, h2, q.keep k (fun _ z => z.elim) id⟩
  pal := fun a h => ⟨(G.pal a h).1, k.2 a (G.pal a h).2⟩
  inj := G.inj
  emp := G.emp
  al := fun a h => k.2 a (G.al a h)
end

/-- what an expression's value is behind its run; k = 1: a list is new -/
def ResOk (K : Fr) (H H' : Hp) (S : Addr → Prop) (k : Nat) (v : V) (d : D) : Prop :=
  Rep K H' S v d ∧ (k = 1 → ∀ ds, d = .list ds → ∃ a xs, v = .ref a ∧ H a = none ∧ H' a = some (.lst xs) ∧ Reps K H' (fun x => S x ∨ x = a) xs ds)
theorem ResOk.zero {K : Fr} {H H' : Hp} {S : Addr → Prop} {v : V} {d : D} (h : Rep K H' S v d) : ResOk K H H' S 0 v d := ⟨h, fun z => nomatch z⟩
theorem ResOk.atom {K : Fr} {H H' : Hp} {S : Addr → Prop} {k : Nat} {v : V} {d : D} (h : Rep K H' S v d) (n : ∀ ds, d ≠ .list ds) : ResOk K H H' S k v d := ⟨h, fun _ ds e => absurd e (n ds)⟩
theorem ResOk.down {K : Fr} {H H' : Hp} {S : Addr → Prop} {k j : Nat} {v : V} {d : D} (h : ResOk K H H' S k v d) (hj : j = 1 → k = 1) : ResOk K H H' S j v d := ⟨h.1, fun e => h.2 (hj e)⟩
/-- from an earlier start -/
theorem ResOk.back {K : Fr} {M : Addr → Prop} {H0 H H' : Hp} {S : Addr → Prop} {k : Nat} {v : V} {d : D} (h : ResOk K H H' S k v d) (kp : Keep M H0 H) : ResOk K H0 H' S k v d :=
  ⟨h.1, fun e ds ed => let ⟨a, xs, h1, h2, h3, h4⟩ := h.2 e ds ed; ⟨a, xs, h1, by
    cases q : H0 a with
    | none => rfl
    | some o => exact absurd h2 (kp.2 a (by rw [q]; exact fun z => nomatch z)), h3, h4⟩⟩
abbrev EAt := Ex → Value → Option Addr → Hp → Prop
section
variable (K : Fr) (A0 : Prot) (EA : EAt) (W : WX)
def Pst {α : Type} (σ : L2.St) (Fs : List (Option Addr)) (H : Hp) (o : Out α) (R : α → Env → Hp → Prop) : Prop :=
  match o with
  | .ok a r' => R a r' H
  | .exc x r' => ∀ cls dx H', Keep (inF Fs) H H' → Good K A0 σ H' r' Fs → EA x cls dx H' → W cls dx σ H'
  | .bad => False
/-- an expression's reading by the evaluator -/
def TEv (k : Nat) (f : Env → Out D) : TE := fun σ H Q => ∃ r Fs, Good K A0 σ H r Fs ∧ Pst K A0 EA W σ Fs H (f r) fun d r' _ =>
  ∀ v H', Keep (inF Fs) H H' → Good K A0 σ H' r' Fs → ResOk K H H' (Sv A0 Fs) k v d → Q v H'
def TTv (f : Env → Out Bool) : TT := fun σ H Q => ∃ r Fs, Good K A0 σ H r Fs ∧ Pst K A0 EA W σ Fs H (f r) fun b r' _ =>
  ∀ H', Keep (inF Fs) H H' → Good K A0 σ H' r' Fs → Q b H'
def TAv (f : Env → Out (List D)) : TA := fun σ H Q => ∃ r Fs, Good K A0 σ H r Fs ∧ Pst K A0 EA W σ Fs H (f r) fun ds r' _ =>
  ∀ vs H', Keep (inF Fs) H H' → Good K A0 σ H' r' Fs → Reps K H' (Sv A0 Fs) vs ds → Q vs H'
end
theorem PE.imp {X : Cx} {e : Expr} {t t' : TE} (h : PE X e t) (i : ∀ σ H Q, t' σ H Q → t σ H Q) : PE X e t' := ⟨fun pins s σ H Q I q => h.run pins s σ H Q I (i σ H Q q)⟩
theorem PT.imp {X : Cx} {e : Expr} {t t' : TT} (h : PT X e t) (i : ∀ σ H Q, t' σ H Q → t σ H Q) : PT X e t' := ⟨fun pins s σ H Q I q => h.run pins s σ H Q I (i σ H Q q)⟩
theorem PA.imp {X : Cx} {e : List Expr} {t t' : TA} (h : PA X e t) (i : ∀ σ H Q, t' σ H Q → t σ H Q) : PA X e t' := ⟨fun pos pins s σ H Q I q => h.run pos pins s σ H Q I (i σ H Q q)⟩
section
variable {K : Fr} {A0 : Prot} {EA : EAt} {W : WX} {σ : L2.St} {Fs : List (Option Addr)} {H H' : Hp}
/-- a first part's outcome, then the rest -/
theorem Pst.bind {α β : Type} {o : Out α} {g : α → Env → Out β} {R : β → Env → Hp → Prop} {R' : α → Env → Hp → Prop}
    (h : Pst K A0 EA W σ Fs H (o.bind g) R) (hR : ∀ a r', o = .ok a r' → Pst K A0 EA W σ Fs H (g a r') R → R' a r' H) : Pst K A0 EA W σ Fs H o R' := by
  cases o with
  | ok a r' => exact hR a r' rfl h
  | exc x r' => exact h
  | bad => exact h
/-- later, from a kept heap -/
theorem Pst.later {α : Type} {o : Out α} {R R' : α → Env → Hp → Prop} (h : Pst K A0 EA W σ Fs H o R) (k : Keep (inF Fs) H H') (hR : ∀ a r', R a r' H → R' a r' H') : Pst K A0 EA W σ Fs H' o R' := by
  cases o with
  | ok a r' => exact hR a r' h
  | exc x r' => exact fun cls dx H2 k2 g e => h cls dx H2 (k.trans k2) g e
  | bad => exact h
end
end Cw
end

section
namespace Cw
open PySem PySem.Spec PyProof.Rows L2

theorem LIM_eq : LIM = sizeLine := by rw [sizeLine_eq] <;> rfl
/-- what an operation on values is to do: al: the places to be kept away from are taken -/
def rVal (K : Fr) (k : Nat) (f : D → D → Option D) : R2 := fun x y H Q => ∃ (S : Addr → Prop) (dx dy d : D), (∀ a, S a → H a ≠ none) ∧ Rep K H S x dx ∧ Rep K H S y dy ∧ f dx dy = some d ∧
  ∀ v H', Keep (fun _ => False) H H' → ResOk K H H' S k v d → Q v H'
section
variable {X : Cx} {pins : List (Addr × Obj)} {σ : L2.St} {s : Shared} {H : Hp}
theorem op_catL : OpR X (binaryOp .Add) (fun x y H Q => ∃ l b xs zs, x = .ref l ∧ y = .ref b ∧ SqL X.K H l xs ∧ SqL X.K H b zs ∧ xs.length + zs.length ≤ sizeLine ∧ ∀ p, H p = none → Q (.ref p) (upd H p (.lst (xs ++ zs)))) := by
  intro pins s σ H x y v u Q I rx ry h
  obtain ⟨l, b, xs, zs, rfl, rfl, hH, hB, hz, q⟩ := h
  cases rx
  cases ry
  obtain ⟨its, r, ⟨⟨cls, dd, data, sl⟩, n, e, hc, _, hd⟩, _⟩ := I.list hH
  obtain ⟨its2, r2, ⟨⟨cls2, dd2, data2, sl2⟩, n2, e2, hc2, _, hd2⟩, _⟩ := I.list hB
  simp only at hc hd hc2 hd2
  subst hc hd hc2 hd2
  have hl := r.length
  have hl2 := r2.length
  have ea : its.toArray ++ its2.toArray = (its ++ its2).toArray := by simp
  refine concat_meets ⟨_, e, rfl⟩ ⟨_, e2, rfl⟩ noFill_list_add seq_list_add PySem.F.slot_list_add PySem.F.entry_list_add (PySem.F.args_list_add_2 _ _) (list_addW l b its.toArray its2.toArray n n2 dd dd2 sl sl2 (by simp only [List.size_toArray]; omega)) ⟨e, e2, ?_⟩
  rw [ea]
  exact ⟨.ref _, _, I.lnew (t' := s.toks) (r.append r2) (by rw [List.length_append]; omega), rfl, q _ I.fresh⟩
theorem str_len_le {a : Str} (h : a.length ≤ LIM) : a.length ≤ sizeLine := by rw [← LIM_eq]; exact h
theorem rep_int {K : Fr} {H : Hp} {S : Addr → Prop} {v : V} {i : Int} (h : Rep K H S v (.int i)) : v = .int i := by cases h; rfl
theorem rep_str {K : Fr} {H : Hp} {S : Addr → Prop} {v : V} {i : Str} (h : Rep K H S v (.str i)) : v = .str i := by cases h; rfl
theorem rep_bl {K : Fr} {H : Hp} {S : Addr → Prop} {v : V} {i : Bool} (h : Rep K H S v (.bool i)) : v = .bl i := by cases h; rfl
theorem rep_non {K : Fr} {H : Hp} {S : Addr → Prop} {v : V} (h : Rep K H S v .none) : v = .non := by cases h; rfl
theorem rep_lst {K : Fr} {H : Hp} {S : Addr → Prop} {v : V} {ds : List D} (h : Rep K H S v (.list ds)) : ∃ a xs, v = .ref a ∧ LstAt K H S a xs ∧ Reps K H S xs ds := by
  cases h with | lst h r => exact ⟨_, _, rfl, h, r⟩
theorem rep_tup {K : Fr} {H : Hp} {S : Addr → Prop} {v : V} {ds : List D} (h : Rep K H S v (.tuple ds)) : ∃ a xs, v = .ref a ∧ TupAt K H S a xs ∧ Reps K H S xs ds := by
  cases h with | tup h r => exact ⟨_, _, rfl, h, r⟩
theorem al_new {S : Addr → Prop} {p : Addr} (al : ∀ a, S a → H a ≠ none) (h : H p = none) : ¬ S p := fun z => al p z h
/-- a new list -/
theorem res_newL {K : Fr} {S : Addr → Prop} {p : Addr} {xs : List V} {ds : List D} {k : Nat} (al : ∀ a, S a → H a ≠ none) (h : H p = none) (r : Reps K H S xs ds) : ResOk K H (upd H p (.lst xs)) S k (.ref p) (.list ds) := by
  have r' : Reps K (upd H p (.lst xs)) S xs ds := r.keep (M := fun _ => False) (Keep.new h) fun _ z => z.elim
  exact ⟨.lst (.inl ⟨.inl upd_same, al_new al h⟩) r', fun _ ds' e => by cases e; exact ⟨p, xs, rfl, h, upd_same, (r.mono fun a z => z.elim .inl fun e => .inr (e ▸ h)).keep (M := fun _ => False) (Keep.new h) fun _ z => z.elim⟩⟩
theorem res_newT {K : Fr} {S : Addr → Prop} {p : Addr} {xs : List V} {ds : List D} {k : Nat} (al : ∀ a, S a → H a ≠ none) (h : H p = none) (r : Reps K H S xs ds) : ResOk K H (upd H p (.tup xs)) S k (.ref p) (.tuple ds) := by
  have r' : Reps K (upd H p (.tup xs)) S xs ds := r.keep (M := fun _ => False) (Keep.new h) fun _ z => z.elim
  exact ResOk.atom (.tup (.inl ⟨.inl upd_same, al_new al h⟩) r') fun _ e => nomatch e
theorem cmul_ok {i j : Int} (h : mulOk i j = true) : IntMulOk i j := by
  unfold mulOk at h
  rcases of_decide_eq_true h with h | h | h
  · exact CMul.ok (.inl h)
  · exact CMul.ok (.inr h)
  · exact CMulW.ok h
def opOf : BOp → Operator
  | .add => .Add | .sub => .Sub | .mul => .Mult | .fdiv => .FloorDiv | .mod => .Mod | .pow => .Pow
theorem op_bin (op : BOp) : OpR X (binaryOp (opOf op)) (rVal X.K 1 (binD op)) := by
  intro pins s σ H x y v u Q I rx ry ⟨S, dx, dy, d, al, hx, hy, hf, q⟩
  have hi : ∀ i, d = .int i → Q (.int i) H := fun i e => q _ _ Keep.refl (ResOk.atom (by rw [e]; exact .int i) (by rw [e]; exact fun _ z => nomatch z))
  cases op
  case add =>
    cases dx <;> cases dy <;> simp only [binD, Option.some.injEq, reduceCtorEq, Option.ite_none_right_eq_some] at hf
    · have e1 := rep_int hx; have e2 := rep_int hy; subst e1 e2
      exact op_add pins s σ H _ _ v u Q I rx ry ⟨_, _, rfl, rfl, hi _ hf.symm⟩
    · have e1 := rep_str hx; have e2 := rep_str hy; subst e1 e2
      obtain ⟨hl, hf⟩ := hf
      exact op_add_str pins s σ H _ _ v u Q I rx ry ⟨_, _, rfl, rfl, by rw [← LIM_eq]; exact hl, q _ _ Keep.refl (ResOk.atom (by rw [← hf]; exact .str _) (by rw [← hf]; exact fun _ z => nomatch z))⟩
    · obtain ⟨a, xs, rfl, la, ra⟩ := rep_lst hx
      obtain ⟨b, ys, rfl, lb, rb⟩ := rep_lst hy
      obtain ⟨hl, hf⟩ := hf
      subst hf
      refine op_catL pins s σ H _ _ v u Q I rx ry ⟨a, b, xs, ys, rfl, rfl, la.sq, lb.sq, by rw [← LIM_eq, ra.length, rb.length]; exact hl, fun p hp => q _ _ (Keep.new hp) ?_⟩
      exact res_newL al hp (ra.append rb)
    · obtain ⟨a, xs, rfl, la, ra⟩ := rep_tup hx
      obtain ⟨b, ys, rfl, lb, rb⟩ := rep_tup hy
      obtain ⟨hl, hf⟩ := hf
      subst hf
      refine op_catA pins s σ H _ _ v u Q I rx ry ⟨a, b, xs, ys, rfl, rfl, la.sq, lb.sq, by rw [← LIM_eq, ra.length, rb.length]; exact hl, fun e => ?_, fun _ e => ?_, fun _ _ p hp => ?_⟩
      · subst e
        cases ra
        exact q _ _ Keep.refl (ResOk.atom hy fun _ e => nomatch e)
      · subst e
        cases rb
        refine q _ _ Keep.refl (ResOk.atom (by simpa using hx) fun _ e => nomatch e)
      · exact q _ _ (Keep.new hp) (res_newT al hp (ra.append rb))
  case sub =>
    cases dx <;> cases dy <;> simp only [binD, Option.some.injEq, reduceCtorEq] at hf
    have e1 := rep_int hx; have e2 := rep_int hy; subst e1 e2
    exact op_sub pins s σ H _ _ v u Q I rx ry ⟨_, _, rfl, rfl, hi _ hf.symm⟩
  case mul =>
    cases dx <;> cases dy <;> simp only [binD, Option.some.injEq, reduceCtorEq, Option.ite_none_right_eq_some] at hf
    have e1 := rep_int hx; have e2 := rep_int hy; subst e1 e2
    obtain ⟨t, rfl⟩ := rx
    obtain ⟨t', rfl⟩ := ry
    exact mul_int ⟨.int _, H, I.tok _, ⟨_, rfl⟩, hi _ hf.2.symm⟩ (cmul_ok hf.1)
  case fdiv =>
    cases dx <;> cases dy <;> simp only [binD, Option.some.injEq, reduceCtorEq, Option.ite_none_right_eq_some] at hf
    have e1 := rep_int hx; have e2 := rep_int hy; subst e1 e2
    exact op_fdivW pins s σ H _ _ v u Q I rx ry ⟨_, _, rfl, rfl, (by have h1 := hf.1; unfold divOk at h1; have h2 := of_decide_eq_true h1; exact h2), hi _ hf.2.symm⟩
  case mod =>
    cases dx <;> cases dy <;> simp only [binD, Option.some.injEq, reduceCtorEq, Option.ite_none_right_eq_some] at hf
    have e1 := rep_int hx; have e2 := rep_int hy; subst e1 e2
    exact op_mod pins s σ H _ _ v u Q I rx ry ⟨_, _, rfl, rfl, hf.1, hi _ hf.2.symm⟩
  case pow =>
    cases dx <;> cases dy <;> simp only [binD, Option.some.injEq, reduceCtorEq, Option.ite_none_right_eq_some] at hf
    have e1 := rep_int hx; have e2 := rep_int hy; subst e1 e2
    exact op_pow pins s σ H _ _ v u Q I rx ry ⟨_, _, rfl, rfl, hf.1, hi _ hf.2.symm⟩

def copOf : COp → CmpOp
  | .eq => .Eq | .ne => .NotEq | .lt => .Lt | .le => .LtE | .gt => .Gt | .ge => .GtE | .isn => .Is | .ntn => .IsNot | .inn => .In | .nin => .NotIn
theorem deep_ok {A : Around} {a b : D} (hu : A.units + 64 < cLine) (h : deepOk a b = true) : A.units + min a.depth b.depth < cLine := by
  have h1 : min a.depth b.depth ≤ 60 := of_decide_eq_true h
  omega
theorem min_comm' (a b : Nat) : min a b = min b a := by omega
theorem notNon {a : D} (h : (!isNon a) = true) : a ≠ .none := by rintro rfl; simp [isNon] at h
theorem alike_none_r {a b : D} (h : PySem.W.alike a b = true) (hn : a ≠ .none) : b ≠ .none := by
  rintro rfl
  cases a <;> simp [PySem.W.alike] at h hn
theorem op_cmp (op : COp) (hu : X.A.units + 64 < cLine) : OpR X (compareOp (copOf op)) (rVal X.K 0 fun a b => (cmpD op a b).map .bool) := by
  intro pins s σ H x y v u Q I rx ry ⟨S, dx, dy, d, al, hx, hy, hf, q⟩
  obtain ⟨k, hk, rfl⟩ := Option.map_eq_some_iff.mp hf
  have fin : ∀ {k' : Bool} {s' : Shared}, Inv X pins σ H s' → k' = k → EP X pins σ Q (.bool k') s' := fun I' e => ⟨.bl k, H, I', by rw [e]; rfl, q _ _ Keep.refl (ResOk.zero (.bl k))⟩
  obtain ⟨as, ra⟩ := Rep.reads I hx rx
  obtain ⟨bs, rb⟩ := Rep.reads I hy ry
  have heq : ∀ {k}, eqD dx dy = some k → (dx.plain = true ∧ dy.plain = true) ∧ X.A.units + min dx.depth dy.depth < cLine ∧ PyData.eqv dx dy = k := fun {k} h => by
    simp only [eqD, Option.ite_none_right_eq_some, Bool.and_eq_true, Option.some.injEq] at h
    exact ⟨h.1.1, deep_ok hu h.1.2, h.2⟩
  have hlt : ∀ {a b k}, ltD a b = some k → PySem.W.alike a b = true ∧ a ≠ .none ∧ X.A.units + min a.depth b.depth < cLine ∧ PySem.W.dataLt a b = k := fun {a b k} h => by
    simp only [ltD, Option.ite_none_right_eq_some, Bool.and_eq_true, Option.some.injEq] at h
    exact ⟨h.1.1.1, notNon h.1.1.2, deep_ok hu h.1.2, h.2⟩
  cases op
  case eq =>
    obtain ⟨⟨h1, h2⟩, h3, h4⟩ := heq hk
    exact PySem.SeqAt.eq_plain ra rb h1 h2 h3 (fin I h4)
  case ne =>
    obtain ⟨k0, hk0, e⟩ := Option.map_eq_some_iff.mp hk
    obtain ⟨⟨h1, h2⟩, h3, h4⟩ := heq hk0
    exact PySem.SeqAt.ne_plain ra rb h1 h2 h3 (fin I (by rw [h4]; exact e))
  case lt =>
    obtain ⟨h1, h2, h3, h4⟩ := hlt hk
    exact PySem.W.lt_data ra rb h1 h2 h3 (fin I h4)
  case gt =>
    obtain ⟨h1, h2, h3, h4⟩ := hlt hk
    exact PySem.W.gt_data ra rb (by rw [PySem.W.alike_comm]; exact h1) (alike_none_r h1 h2) (by rw [min_comm']; exact h3) (fin I h4)
  case le =>
    obtain ⟨k0, hk0, e⟩ := Option.map_eq_some_iff.mp hk
    obtain ⟨h1, h2, h3, h4⟩ := hlt hk0
    exact PySem.W.le_data ra rb (by rw [PySem.W.alike_comm]; exact h1) (alike_none_r h1 h2) (by rw [min_comm']; exact h3) (fin I (by rw [h4]; exact e))
  case ge =>
    obtain ⟨k0, hk0, e⟩ := Option.map_eq_some_iff.mp hk
    obtain ⟨h1, h2, h3, h4⟩ := hlt hk0
    exact PySem.W.ge_data ra rb h1 h2 h3 (fin I (by rw [h4]; exact e))
  case isn =>
    simp only [cmpD, Option.ite_none_right_eq_some, Option.some.injEq] at hk
    have ey : dy = .none := by cases dy <;> simp_all [isNon]
    subst ey
    have e1 := rep_non hy; subst e1
    refine op_isN pins s σ H _ _ v u Q I rx ry ⟨rfl, ?_⟩
    have e2 : decide (x = V.non) = k := by rw [← hk.2]; cases hx <;> simp [isNon]
    rw [e2]
    exact q _ _ Keep.refl (ResOk.zero (.bl k))
  case ntn =>
    simp only [cmpD, Option.ite_none_right_eq_some, Option.some.injEq] at hk
    have ey : dy = .none := by cases dy <;> simp_all [isNon]
    subst ey
    have e1 := rep_non hy; subst e1
    refine op_notN pins s σ H _ _ v u Q I rx ry ⟨rfl, ?_⟩
    have e2 : (!decide (x = V.non)) = k := by rw [← hk.2]; cases hx <;> simp [isNon]
    rw [e2]
    exact q _ _ Keep.refl (ResOk.zero (.bl k))
  case inn =>
    cases dy <;> simp only [cmpD, inD, reduceCtorEq, Option.ite_none_right_eq_some, Bool.and_eq_true, Option.some.injEq] at hk
    · exact PySem.SeqAt.in_list_data rb ra hk.1.1.1 hk.1.1.2 (by have h1 : min _ _ ≤ 60 := of_decide_eq_true hk.1.2; simp only [PyData.depth] at h1; omega) (fin I hk.2)
    · exact PySem.SeqAt.in_tuple_data rb ra hk.1.1.1 hk.1.1.2 (by have h1 : min _ _ ≤ 60 := of_decide_eq_true hk.1.2; simp only [PyData.depth] at h1; omega) (fin I hk.2)
    · cases hy
  case nin =>
    obtain ⟨k0, hk0, e⟩ := Option.map_eq_some_iff.mp hk
    cases dy <;> simp only [inD, reduceCtorEq, Option.ite_none_right_eq_some, Bool.and_eq_true, Option.some.injEq] at hk0
    · exact PySem.SeqAt.notIn_list_data rb ra hk0.1.1.1 hk0.1.1.2 (by have h1 : min _ _ ≤ 60 := of_decide_eq_true hk0.1.2; simp only [PyData.depth] at h1; omega) (fin I (by rw [hk0.2]; exact e))
    · exact PySem.SeqAt.notIn_tuple_data rb ra hk0.1.1.1 hk0.1.1.2 (by have h1 : min _ _ ≤ 60 := of_decide_eq_true hk0.1.2; simp only [PyData.depth] at h1; omega) (fin I (by rw [hk0.2]; exact e))
    · cases hy
theorem atI_eq {α : Type} {xs : List α} {i : Int} {v : α} (h : atI xs i = some v) : ∃ j, ixN xs.length i = some j ∧ xs[j]? = some v := by
  unfold atI at h
  exact Option.bind_eq_some_iff.mp h
theorem atI_of {α : Type} {xs : List α} {i : Int} {v : α} {j : Nat} (h1 : ixN xs.length i = some j) (h2 : xs[j]? = some v) : atI xs i = some v := by
  unfold atI
  rw [h1]
  exact h2
theorem ix_val : IxR X (rVal X.K 0 idxD) := by
  intro value slice pins s σ H x y v u Q I rx ry ⟨S, dx, dy, d, al, hx, hy, hf, q⟩ hs
  cases hx
  case lst h r =>
    cases dy <;> simp only [idxD, reduceCtorEq] at hf
    have e1 := rep_int hy; subst e1
    obtain ⟨j, h1, h2⟩ := atI_eq hf
    obtain ⟨w, h3, h4⟩ := r.get h2
    exact ix_list value slice pins s σ H _ _ v u Q I rx ry ⟨_, _, _, w, rfl, rfl, h.sq, atI_of (by rw [r.length]; exact h1) h3, q _ _ Keep.refl (ResOk.zero h4)⟩ hs
  case tup h r =>
    cases dy <;> simp only [idxD, reduceCtorEq] at hf
    have e1 := rep_int hy; subst e1
    obtain ⟨j, h1, h2⟩ := atI_eq hf
    obtain ⟨w, h3, h4⟩ := r.get h2
    exact ix_tup value slice pins s σ H _ _ v u Q I rx ry ⟨_, _, _, w, rfl, rfl, h.sq, atI_of (by rw [r.length]; exact h1) h3, q _ _ Keep.refl (ResOk.zero h4)⟩ hs
  case str x =>
    cases dy <;> simp only [idxD, reduceCtorEq, Option.ite_none_right_eq_some, Option.map_eq_some_iff] at hf
    have e1 := rep_int hy; subst e1
    obtain ⟨hl, c, hc, rfl⟩ := hf
    exact ix_str value slice pins s σ H _ _ v u Q I rx ry ⟨_, _, c, rfl, rfl, str_len_le hl, hc, q _ _ Keep.refl (ResOk.zero (.str _))⟩ hs
  all_goals (cases dy <;> simp [idxD] at hf)
/-- a slice -/
def rSlV (K : Fr) : V → Option Int → Option Int → Hp → VK → Prop := fun x lo hi H Q => ∃ (S : Addr → Prop) (dx d : D), (∀ a, S a → H a ≠ none) ∧ Rep K H S x dx ∧ slcD dx lo hi = some d ∧ ∀ v H', Keep (fun _ => False) H H' → ResOk K H H' S 1 v d → Q v H'
theorem sl_val : SlR X (rSlV X.K) := by
  intro pins s σ H x v vl vu lo hi sl Q I rx hs pl pu ⟨S, dx, d, al, hx, hf, q⟩
  cases hx
  case lst h r =>
    simp only [slcD, Option.some.injEq] at hf
    subst hf
    exact sl_list pins s σ H _ v vl vu lo hi sl Q I rx hs pl pu ⟨_, _, rfl, h.sq, fun p hp => q _ _ (Keep.new hp) (res_newL al hp (r.cut lo hi))⟩
  case tup h r =>
    simp only [slcD, Option.some.injEq] at hf
    subst hf
    refine sl_tupA pins s σ H _ v vl vu lo hi sl Q I rx hs pl pu ⟨_, _, rfl, h.sq, fun hw => q _ _ Keep.refl (ResOk.atom ?_ fun _ e => nomatch e), fun _ p hp => q _ _ (Keep.new hp) (res_newT al hp (r.cut lo hi))⟩
    rename_i ds
    have e : cutL ds lo hi = ds := by
      unfold cutL
      rw [← r.length, hw.1, hw.2, List.drop_zero, Nat.sub_zero, r.length, List.take_length]
    rw [e]
    exact .tup h r
  all_goals simp [slcD] at hf
theorem tru_rep {K : Fr} {S : Addr → Prop} {x : V} {d : D} {k : Bool} (h : Rep K H S x d) (hk : truthD d = some k) : TruV K x H k := by
  cases h with
  | non => simp only [truthD, Option.some.injEq] at hk; exact hk.symm
  | bl b => simp only [truthD, Option.some.injEq] at hk; exact hk.symm
  | int i => simp only [truthD, Option.some.injEq] at hk; exact hk.symm
  | str x => simp only [truthD, Option.ite_none_right_eq_some, Option.some.injEq] at hk; exact ⟨str_len_le hk.1, hk.2.symm⟩
  | lst h r =>
    simp only [truthD, Option.some.injEq] at hk
    refine .inl ⟨_, h.sq, ?_⟩
    rw [← hk]
    cases r <;> rfl
  | tup h r =>
    simp only [truthD, Option.some.injEq] at hk
    refine .inr (.inl ⟨_, h.sq, ?_⟩)
    rw [← hk]
    cases r <;> rfl
end
end Cw
end

section
namespace Cw
open PySem PySem.Spec PyProof.Rows L2

section
variable {K : Fr} {A0 : Prot} {EA : EAt} {W : WX} {σ : L2.St} {Fs : List (Option Addr)} {H H' : Hp} {k ka kb kc : Nat}
theorem Pst.lift {α : Type} {o : Option α} {r : Env} {R : α → Env → Hp → Prop} (h : Pst K A0 EA W σ Fs H (lift o r) R) : ∃ d, o = some d ∧ R d r H := by
  cases o with
  | none => exact h.elim
  | some d => exact ⟨d, rfl, h⟩
theorem Pst.ok {α : Type} {a : α} {r : Env} {R : α → Env → Hp → Prop} (h : R a r H) : Pst K A0 EA W σ Fs H (.ok a r) R := h
theorem sub_in {Fs : List (Option Addr)} {A0 : Prot} : ∀ a, inF Fs a → Sv A0 Fs a := fun _ h => .inr h
theorem kf {M : Addr → Prop} {H H' : Hp} (h : Keep (fun _ => False) H H') : Keep M H H' := h.weak fun _ z => z.elim
/-- two operands, then a function of their values -/
theorem tv2 {f : D → D → Option D} {fa fb : Env → Out D} {Q : VK} (h : TEv K A0 EA W k (fun r => (fa r).bind fun x r1 => (fb r1).bind fun y r2 => lift (f x y) r2) σ H Q) :
    tOp (rVal K k f) (TEv K A0 EA W ka fa) (TEv K A0 EA W kb fb) σ H Q := by
  obtain ⟨r, Fs, G, h⟩ := h
  refine ⟨r, Fs, G, h.bind fun x r1 _ h1 => fun v1 H1 k1 G1 q1 => ⟨r1, Fs, G1, (h1.bind (R' := fun y r2 _ => ∃ d, f x y = some d ∧ ∀ v H', Keep (inF Fs) H H' → Good K A0 σ H' r2 Fs → ResOk K H H' (Sv A0 Fs) k v d → Q v H') fun y r2 _ h2 => h2.lift).later k1 fun y r2 ⟨d, hd, h3⟩ => fun v2 H2 k2 G2 q2 => ?_⟩⟩
  refine ⟨Sv A0 Fs, x, y, d, G2.alS, q1.1.keep k2 sub_in, q2.1, hd, fun v H3 k3 q3 => ?_⟩
  exact h3 v H3 ((k1.trans k2).trans (kf k3)) (G2.keep0 k3) (q3.back (k1.trans k2))
/-- one operand -/
def rV1 (K : Fr) (k : Nat) (f : D → Option D) : V → Hp → VK → Prop := fun x H Q => ∃ (S : Addr → Prop) (dx d : D), (∀ a, S a → H a ≠ none) ∧ Rep K H S x dx ∧ f dx = some d ∧
  ∀ v H', Keep (fun _ => False) H H' → ResOk K H H' S k v d → Q v H'
theorem tv1 {f : D → Option D} {fa : Env → Out D} {Q : VK} (h : TEv K A0 EA W k (fun r => (fa r).bind fun x r1 => lift (f x) r1) σ H Q) :
    TEv K A0 EA W ka fa σ H fun x H1 => rV1 K k f x H1 Q := by
  obtain ⟨r, Fs, G, h⟩ := h
  refine ⟨r, Fs, G, h.bind fun x r1 _ h1 => fun v1 H1 k1 G1 q1 => ?_⟩
  obtain ⟨d, hd, h2⟩ := h1.lift
  exact ⟨Sv A0 Fs, x, d, G1.alS, q1.1, hd, fun v H3 k3 q3 => h2 v H3 (k1.trans (kf k3)) (G1.keep0 k3) (q3.back k1)⟩
theorem TEv.mono {f : Env → Out D} {Q Q' : VK} (h : TEv K A0 EA W k f σ H Q) (i : ∀ v H', Q v H' → Q' v H') : TEv K A0 EA W k f σ H Q' := by
  obtain ⟨r, Fs, G, h⟩ := h
  refine ⟨r, Fs, G, ?_⟩
  show Pst K A0 EA W σ Fs H (f r) _
  cases e : f r with
  | ok d r' => rw [e] at h; exact fun v H' k1 G1 q => i _ _ (h v H' k1 G1 q)
  | exc x r' => rw [e] at h; exact h
  | bad => rw [e] at h; exact h
theorem TEv.down {j : Nat} {f : Env → Out D} (hj : j = 1 → k = 1) {Q : VK} (h : TEv K A0 EA W j f σ H Q) : TEv K A0 EA W k f σ H Q := by
  obtain ⟨r, Fs, G, h⟩ := h
  refine ⟨r, Fs, G, ?_⟩
  show Pst K A0 EA W σ Fs H (f r) _
  cases e : f r with
  | ok d r' => rw [e] at h; exact fun v H' k1 G1 q => h v H' k1 G1 (q.down hj)
  | exc x r' => rw [e] at h; exact h
  | bad => rw [e] at h; exact h
end
section
variable {X : Cx} {A0 : Prot} {EA : EAt} {W : WX} {k ka kb kc : Nat} {a b c e : Expr} {es : List Expr} {fa fb fc : Env → Out D} {pos : Pos}
theorem te_down {j : Nat} (hj : j = 1 → k = 1) (h : PE X e (TEv X.K A0 EA W k fa)) : PE X e (TEv X.K A0 EA W j fa) := PE.imp h fun _ _ _ q => q.down hj
theorem te_var {i : Nat} {x : Str} (hN : X.N[i]? = some x) (hv : Vis X.env.scope x) (hd : (x == ("__debug__" : Str)) = false) (hcd : (x == ("__classdict__" : Str)) = false) : PE X (.Name x pos) (TEv X.K A0 EA W 0 fun r => lift (getV r i) r) := by
  refine PE.imp (pe_var hN hv hd hcd) fun σ H Q ⟨r, Fs, G, h⟩ => ?_
  obtain ⟨d, hd, h⟩ := h.lift
  have e : r[i]? = some (.val d) := by
    unfold getV at hd
    split at hd
    · cases hd; assumption
    · cases hd
  obtain ⟨v, hv, q⟩ := G.val i d e
  exact ⟨v, hv, h v H Keep.refl G (ResOk.zero q)⟩
theorem te_con {v : V} {d : D} (h : PE X e (tC v)) (hr : ∀ (H : Hp) S, Rep X.K H S v d) (hd : ∀ ds, d ≠ .list ds) : PE X e (TEv X.K A0 EA W k fun r => .ok d r) :=
  PE.imp h fun σ H Q ⟨r, Fs, G, q⟩ => q v H Keep.refl G (ResOk.atom (hr _ _) hd)
theorem te_int {i : Int} {j : Nat} : PE X (.Constant (.int i) j pos) (TEv X.K A0 EA W k fun r => .ok (.int i) r) := te_con pe_int (fun _ _ => .int i) fun _ e => nomatch e
theorem te_bl {i : Bool} {j : Nat} : PE X (.Constant (.bool i) j pos) (TEv X.K A0 EA W k fun r => .ok (.bool i) r) := te_con pe_bl (fun _ _ => .bl i) fun _ e => nomatch e
theorem te_str {i : Str} {j : Nat} : PE X (.Constant (.str i) j pos) (TEv X.K A0 EA W k fun r => .ok (.str i) r) := te_con pe_str (fun _ _ => .str i) fun _ e => nomatch e
theorem te_non {j : Nat} : PE X (.Constant .none j pos) (TEv X.K A0 EA W k fun r => .ok .none r) := te_con pe_non (fun _ _ => .non) fun _ e => nomatch e
theorem te_bin {op : BOp} (ha : PE X a (TEv X.K A0 EA W ka fa)) (hb : PE X b (TEv X.K A0 EA W kb fb)) : PE X (.BinOp a (opOf op) b pos) (TEv X.K A0 EA W 1 fun r => (fa r).bind fun x r1 => (fb r1).bind fun y r2 => lift (binD op x y) r2) :=
  PE.imp (pe_op (op_bin op) ha hb) fun _ _ _ q => tv2 q
theorem nobeh {op : COp} {e : Expr} (h : (op = .inn ∨ op = .nin) → ∀ es k p, e ≠ .Set es k p) : behindInMarks (copOf op) e = false := by
  by_cases ho : op = .inn ∨ op = .nin
  · cases e <;> first | rfl | exact absurd rfl (h ho _ _ _)
  · exact nomark e (by cases op <;> simp [copOf] at ho ⊢) (by cases op <;> simp [copOf] at ho ⊢)
theorem te_cmp {op : COp} (hu : X.A.units + 64 < cLine) (ha : PE X a (TEv X.K A0 EA W ka fa)) (hb : PE X b (TEv X.K A0 EA W kb fb)) (hs : ∀ es k p, b ≠ .Set es k p) :
    PE X (.Compare a [copOf op] [b] pos) (TEv X.K A0 EA W 0 fun r => (fa r).bind fun x r1 => (fb r1).bind fun y r2 => lift ((cmpD op x y).map .bool) r2) :=
  PE.imp (pe_cmpR (op_cmp op hu) ha hb (nobeh fun _ => hs)) fun _ _ _ q => tv2 q
theorem te_neg (ha : PE X a (TEv X.K A0 EA W ka fa)) : PE X (.UnaryOp .USub a pos) (TEv X.K A0 EA W 0 fun r => (fa r).bind fun x r1 => lift ((isInt x).map fun i => .int (-i)) r1) := by
  refine PE.imp (pe_un un_neg ha) fun σ H Q q => (tv1 (f := fun x => (isInt x).map fun i => .int (-i)) (ka := ka) q).mono fun x H1 h => ?_
  obtain ⟨S, dx, d, al, hx, hf, q⟩ := h
  obtain ⟨i, hi, rfl⟩ := Option.map_eq_some_iff.mp hf
  cases dx <;> simp only [isInt, reduceCtorEq, Option.some.injEq] at hi
  subst hi
  exact ⟨_, rep_int hx, q _ _ Keep.refl (ResOk.zero (.int _))⟩
theorem te_idx (ha : PE X a (TEv X.K A0 EA W ka fa)) (hb : PE X b (TEv X.K A0 EA W kb fb)) (hs : PlainIx b) : PE X (.Subscript a b pos) (TEv X.K A0 EA W 0 fun r => (fa r).bind fun x r1 => (fb r1).bind fun y r2 => lift (idxD x y) r2) :=
  PE.imp (pe_ix ix_val ha hb hs) fun _ _ _ q => tv2 q
/-- a value's truth -/
theorem tt_val (ha : PE X a (TEv X.K A0 EA W ka fa)) (he : ∀ whole, isTrue a X.env whole = (do let v ← whole; standAt a.pos; holding [v] (truthy v))) : PT X a (TTv X.K A0 EA W fun r => tru (fa r)) := by
  refine PT.imp (pt_truth ha he) fun σ H Q ⟨r, Fs, G, h⟩ => ?_
  refine ⟨r, Fs, G, h.bind fun x r1 _ h1 => fun v1 H1 k1 G1 q1 => ?_⟩
  obtain ⟨k, hk, h2⟩ := h1.lift
  exact ⟨k, tru_rep q1.1 hk, h2 H1 k1 G1⟩
/-- a comparison's value is a bool -/
theorem tt_cmp {op : COp} (hu : X.A.units + 64 < cLine) (ha : PE X a (TEv X.K A0 EA W ka fa)) (hb : PE X b (TEv X.K A0 EA W kb fb)) (hs : ∀ es k p, b ≠ .Set es k p) :
    PT X (.Compare a [copOf op] [b] pos) (TTv X.K A0 EA W fun r => tru ((fa r).bind fun x r1 => (fb r1).bind fun y r2 => lift ((cmpD op x y).map .bool) r2)) := by
  refine PT.imp (pt_cmpR (op_cmp op hu) ha hb (nobeh fun _ => hs)) fun σ H Q ⟨r, Fs, G, h⟩ => ?_
  refine tv2 (k := 0) (f := fun a b => (cmpD op a b).map .bool) (ka := ka) (kb := kb) ⟨r, Fs, G, ?_⟩
  refine h.bind fun d r2 e h1 => fun v H' k1 G1 q1 => ?_
  obtain ⟨b, hb, h2⟩ := h1.lift
  have ed : ∃ b', d = .bool b' := by
    cases e1 : fa r with
    | ok x r1 =>
      simp only [e1, Out.bind] at e
      cases e2 : fb r1 with
      | ok y r3 =>
        simp only [e2] at e
        cases e3 : cmpD op x y with
        | none => simp [e3, Cw.lift] at e
        | some b' => simp only [e3, Cw.lift, Option.map_some, Out.ok.injEq] at e; exact ⟨b', e.1.symm⟩
      | exc _ _ => simp [e2] at e
      | bad => simp [e2] at e
    | exc _ _ => simp [e1, Out.bind] at e
    | bad => simp [e1, Out.bind] at e
  obtain ⟨b', rfl⟩ := ed
  simp only [truthD, Option.some.injEq] at hb
  subst hb
  exact ⟨b', rep_bl q1.1, h2 H' k1 G1⟩
theorem tt_not {f : Env → Out Bool} (ha : PT X a (TTv X.K A0 EA W f)) : PT X (.UnaryOp .Not a pos) (TTv X.K A0 EA W fun r => (f r).bind fun k r1 => .ok (!k) r1) :=
  PT.imp (pt_not ha) fun σ H Q ⟨r, Fs, G, h⟩ => ⟨r, Fs, G, h.bind fun b r1 _ h1 => h1⟩
theorem tt_and {f g : Env → Out Bool} (ha : PT X a (TTv X.K A0 EA W f)) (hb : PW X (.BoolOp .And (b :: es) pos) (TTv X.K A0 EA W g)) : PW X (.BoolOp .And (a :: b :: es) pos) (TTv X.K A0 EA W fun r => (f r).bind fun k r1 => if k then g r1 else .ok false r1) := by
  refine ⟨fun whole pins s σ H Q I ⟨r, Fs, G, h⟩ => (pw_and ha hb).run whole pins s σ H Q I ⟨r, Fs, G, h.bind fun k r1 _ h1 => fun H1 k1 G1 => ?_⟩⟩
  cases k with
  | true =>
    rw [if_pos rfl]
    exact ⟨r1, Fs, G1, (show Pst X.K A0 EA W σ Fs H (g r1) _ from h1).later k1 fun b r2 h2 => fun H' k2 G2 => h2 H' (k1.trans k2) G2⟩
  | false =>
    rw [if_neg Bool.false_ne_true]
    exact h1 H1 k1 G1
theorem tt_or {f g : Env → Out Bool} (ha : PT X a (TTv X.K A0 EA W f)) (hb : PW X (.BoolOp .Or (b :: es) pos) (TTv X.K A0 EA W g)) : PW X (.BoolOp .Or (a :: b :: es) pos) (TTv X.K A0 EA W fun r => (f r).bind fun k r1 => if k then .ok true r1 else g r1) := by
  refine ⟨fun whole pins s σ H Q I ⟨r, Fs, G, h⟩ => (pw_or ha hb).run whole pins s σ H Q I ⟨r, Fs, G, h.bind fun k r1 _ h1 => fun H1 k1 G1 => ?_⟩⟩
  cases k with
  | true =>
    rw [if_pos rfl]
    exact h1 H1 k1 G1
  | false =>
    rw [if_neg Bool.false_ne_true]
    exact ⟨r1, Fs, G1, (show Pst X.K A0 EA W σ Fs H (g r1) _ from h1).later k1 fun b r2 h2 => fun H' k2 G2 => h2 H' (k1.trans k2) G2⟩
theorem te_ite {f : Env → Out Bool} (hc : PT X c (TTv X.K A0 EA W f)) (ha : PE X a (TEv X.K A0 EA W k fa)) (hb : PE X b (TEv X.K A0 EA W k fb)) : PE X (.IfExp c a b pos) (TEv X.K A0 EA W k fun r => (f r).bind fun t r1 => if t then fa r1 else fb r1) := by
  refine PE.imp (pe_ifExp hc ha hb) fun σ H Q ⟨r, Fs, G, h⟩ => ⟨r, Fs, G, h.bind fun t r1 _ h1 => fun H1 k1 G1 => ?_⟩
  cases t with
  | true =>
    rw [if_pos rfl]
    exact ⟨r1, Fs, G1, (show Pst X.K A0 EA W σ Fs H (fa r1) _ from h1).later k1 fun b r2 h2 => fun v H' k2 G2 q => h2 v H' (k1.trans k2) G2 (q.back k1)⟩
  | false =>
    rw [if_neg Bool.false_ne_true]
    exact ⟨r1, Fs, G1, (show Pst X.K A0 EA W σ Fs H (fb r1) _ from h1).later k1 fun b r2 h2 => fun v H' k2 G2 q => h2 v H' (k1.trans k2) G2 (q.back k1)⟩
theorem te_and (ha : PE X a (TEv X.K A0 EA W ka fa)) (hb : PE X (.BoolOp .And (b :: es) pos) (TEv X.K A0 EA W 0 fb)) : PE X (.BoolOp .And (a :: b :: es) pos) (TEv X.K A0 EA W 0 fun r => (fa r).bind fun x r1 => (lift (truthD x) r1).bind fun t r2 => if t then fb r2 else .ok x r2) := by
  refine PE.imp (pe_andT ha hb) fun σ H Q ⟨r, Fs, G, h⟩ => ⟨r, Fs, G, h.bind fun x r1 _ h1 => fun v H1 k1 G1 q1 => ?_⟩
  cases ht : truthD x with
  | none => rw [ht] at h1; exact h1.elim
  | some t =>
    rw [ht] at h1
    refine ⟨t, tru_rep q1.1 ht, ?_⟩
    cases t with
    | true =>
      rw [if_pos rfl]
      exact ⟨r1, Fs, G1, (show Pst X.K A0 EA W σ Fs H (fb r1) _ from h1).later k1 fun b r2 h2 => fun v H' k2 G2 q => h2 v H' (k1.trans k2) G2 (q.back k1)⟩
    | false =>
      rw [if_neg Bool.false_ne_true]
      exact h1 v H1 k1 G1 (ResOk.zero q1.1)
theorem te_or (ha : PE X a (TEv X.K A0 EA W ka fa)) (hb : PE X (.BoolOp .Or (b :: es) pos) (TEv X.K A0 EA W 0 fb)) : PE X (.BoolOp .Or (a :: b :: es) pos) (TEv X.K A0 EA W 0 fun r => (fa r).bind fun x r1 => (lift (truthD x) r1).bind fun t r2 => if t then .ok x r2 else fb r2) := by
  refine PE.imp (pe_orT ha hb) fun σ H Q ⟨r, Fs, G, h⟩ => ⟨r, Fs, G, h.bind fun x r1 _ h1 => fun v H1 k1 G1 q1 => ?_⟩
  cases ht : truthD x with
  | none => rw [ht] at h1; exact h1.elim
  | some t =>
    rw [ht] at h1
    refine ⟨t, tru_rep q1.1 ht, ?_⟩
    cases t with
    | true =>
      rw [if_pos rfl]
      exact h1 v H1 k1 G1 (ResOk.zero q1.1)
    | false =>
      rw [if_neg Bool.false_ne_true]
      exact ⟨r1, Fs, G1, (show Pst X.K A0 EA W σ Fs H (fb r1) _ from h1).later k1 fun b r2 h2 => fun v H' k2 G2 q => h2 v H' (k1.trans k2) G2 (q.back k1)⟩
theorem te_one {op : BoolOp} (ha : PE X a (TEv X.K A0 EA W k fa)) : PE X (.BoolOp op [a] pos) (TEv X.K A0 EA W k fa) := pe_one ha
theorem te_not (ha : PE X a (TEv X.K A0 EA W ka fa)) : PE X (.UnaryOp .Not a pos) (TEv X.K A0 EA W 0 fun r => (fa r).bind fun x r1 => lift ((truthD x).map fun t => .bool (!t)) r1) := by
  refine PE.imp (pe_notT ha) fun σ H Q q => (tv1 (f := fun x => (truthD x).map fun t => .bool (!t)) (ka := ka) q).mono fun x H1 h => ?_
  obtain ⟨S, dx, d, al, hx, hf, q⟩ := h
  obtain ⟨t, ht, rfl⟩ := Option.map_eq_some_iff.mp hf
  exact ⟨t, tru_rep hx ht, q _ _ Keep.refl (ResOk.zero (.bl _))⟩
theorem ta_nil : PA X [] (TAv X.K A0 EA W fun r => .ok [] r) := PA.imp pa_nil fun σ H Q ⟨r, Fs, G, h⟩ => h [] H Keep.refl G .nil
theorem ta_cons {fs : Env → Out (List D)} (ha : PE X e (TEv X.K A0 EA W k fa)) (hr : PA X es (TAv X.K A0 EA W fs)) (hs : starEach (e :: es) X.env = (false, eval e X.env) :: starEach es X.env) :
    PA X (e :: es) (TAv X.K A0 EA W fun r => (fa r).bind fun d r1 => (fs r1).bind fun ds r2 => .ok (d :: ds) r2) := by
  refine PA.imp (pa_cons ha hr hs) fun σ H Q ⟨r, Fs, G, h⟩ => ⟨r, Fs, G, h.bind fun x r1 _ h1 => fun v1 H1 k1 G1 q1 => ⟨r1, Fs, G1, ?_⟩⟩
  refine (h1.bind (R' := fun ds r2 _ => ∀ vs H', Keep (inF Fs) H H' → Good X.K A0 σ H' r2 Fs → Reps X.K H' (Sv A0 Fs) vs (x :: ds) → Q vs H') fun ds r2 _ h2 => h2).later k1 fun ds r2 h3 => fun vs H2 k2 G2 q2 => ?_
  exact h3 (v1 :: vs) H2 (k1.trans k2) G2 (.cons (q1.1.keep k2 sub_in) q2)
theorem te_tup {j : Nat} {fs : Env → Out (List D)} (h : PA X es (TAv X.K A0 EA W fs)) : PE X (.Tuple es j pos) (TEv X.K A0 EA W 0 fun r => (fs r).bind fun ds r' => if ds.length ≤ LIM then .ok (.tuple ds) r' else .bad) := by
  refine PE.imp (pe_tup h) fun σ H Q ⟨r, Fs, G, h⟩ => ⟨r, Fs, G, h.bind fun ds r1 _ h1 => fun vs H1 k1 G1 q1 => ?_⟩
  by_cases hl : ds.length ≤ LIM
  · rw [if_pos hl] at h1
    refine ⟨by rw [q1.length, ← LIM_eq]; exact hl, fun p hp => ?_⟩
    exact h1 _ _ (k1.trans (Keep.new hp)) (G1.keep0 (Keep.new hp)) ((res_newT G1.alS hp q1).back k1)
  · rw [if_neg hl] at h1; exact h1.elim
theorem te_lst {fs : Env → Out (List D)} (h : PA X es (TAv X.K A0 EA W fs)) : PE X (.List es pos) (TEv X.K A0 EA W 1 fun r => (fs r).bind fun ds r' => if ds.length ≤ LIM then .ok (.list ds) r' else .bad) := by
  refine PE.imp (pe_lst h) fun σ H Q ⟨r, Fs, G, h⟩ => ⟨r, Fs, G, h.bind fun ds r1 _ h1 => fun vs H1 k1 G1 q1 => ?_⟩
  by_cases hl : ds.length ≤ LIM
  · rw [if_pos hl] at h1
    refine ⟨by rw [q1.length, ← LIM_eq]; exact hl, fun p hp => ?_⟩
    exact h1 _ _ (k1.trans (Keep.new hp)) (G1.keep0 (Keep.new hp)) ((res_newL G1.alS hp q1).back k1)
  · rw [if_neg hl] at h1; exact h1.elim
end
end Cw
end

section
namespace Cw
open PySem PySem.Spec PyProof.Rows L2

def rCV (K : Fr) (k : Nat) (f : List D → Option D) : List V → Hp → VK → Prop := fun vs H Q => ∃ (S : Addr → Prop) (ds : List D) (d : D), (∀ a, S a → H a ≠ none) ∧ Reps K H S vs ds ∧ f ds = some d ∧
  ∀ v H', Keep (fun _ => False) H H' → ResOk K H H' S k v d → Q v H'
section
variable {K : Fr} {H : Hp} {S : Addr → Prop} {X : Cx} {pins : List (Addr × Obj)} {σ : L2.St} {s : Shared}
theorem reps1 {vs : List V} {d : D} (h : Reps K H S vs [d]) : ∃ v, vs = [v] ∧ Rep K H S v d := by
  cases h with | cons h r => cases r; exact ⟨_, rfl, h⟩
theorem reps2 {vs : List V} {d e : D} (h : Reps K H S vs [d, e]) : ∃ v w, vs = [v, w] ∧ Rep K H S v d ∧ Rep K H S w e := by
  cases h with | cons h r => obtain ⟨w, rfl, q⟩ := reps1 r; exact ⟨_, _, rfl, h, q⟩
theorem ints_vals : ∀ {ds : List D} {ns : List Int} {xs : List V}, intsD ds = some ns → Reps K H S xs ds → xs = ns.map V.int
  | [], ns, xs, h, r => by cases r; simp [intsD] at h; subst h; rfl
  | d :: ds, ns, xs, h, r => by
    cases r with
    | cons r1 r2 =>
      cases d <;> simp only [intsD, reduceCtorEq, Option.map_eq_some_iff] at h
      obtain ⟨ms, h1, rfl⟩ := h
      rw [rep_int r1, ints_vals h1 r2]
      rfl
theorem bls_vals : ∀ {ds : List D} {ns : List Bool} {xs : List V}, bls ds = some ns → Reps K H S xs ds → xs = ns.map V.bl
  | [], ns, xs, h, r => by cases r; simp [bls] at h; subst h; rfl
  | d :: ds, ns, xs, h, r => by
    cases r with
    | cons r1 r2 =>
      cases d <;> simp only [bls, reduceCtorEq, Option.map_eq_some_iff] at h
      obtain ⟨ms, h1, rfl⟩ := h
      rw [rep_bl r1, bls_vals h1 r2]
      rfl
theorem alike_all {xs : List D} (h : (xs.all fun x => xs.all fun y => PySem.W.alike x y) = true) : ∀ x ∈ xs, ∀ y ∈ xs, PySem.W.alike x y = true := by
  simpa [List.all_eq_true] using h
theorem alikeAll_of {xs : List D} (h : alikeAllB xs = true) : PySem.W.AlikeAll xs ∧ PyData.depthAll xs ≤ 60 := by
  simp only [alikeAllB, Bool.and_eq_true] at h
  obtain ⟨⟨h1, h2⟩, h3⟩ := h
  exact ⟨⟨alike_all h1, fun x hx => notNon (List.all_eq_true.mp h2 x hx)⟩, of_decide_eq_true h3⟩
theorem fold_mem {f : D → D → D} (hf : ∀ a b, f a b = a ∨ f a b = b) : ∀ (xs : List D) (x : D), xs.foldl f x ∈ x :: xs
  | [], x => by simp
  | y :: ys, x => by
    have h := fold_mem hf ys (f x y)
    rw [List.foldl_cons]
    rcases List.mem_cons.mp h with h | h
    · rw [h]
      rcases hf x y with e | e <;> rw [e] <;> simp
    · exact List.mem_cons_of_mem _ (List.mem_cons_of_mem _ h)
theorem minD_mem (x : D) (xs : List D) : PySem.W.minD x xs ∈ x :: xs := fold_mem (f := fun a y => if PySem.W.dataLt y a then y else a) (fun a b => by split <;> simp) xs x
theorem maxD_mem (x : D) (xs : List D) : PySem.W.maxD x xs ∈ x :: xs := fold_mem (f := fun a y => if PySem.W.dataLt a y then y else a) (fun a b => by split <;> simp) xs x
/-- the item that reads as one of alike items is that one -/
theorem pick_rep (I : Inv X pins σ H s) {ds : List D} {xs : List V} {its : List Value} (r : Reps X.K H S xs ds) (rv : Vals xs its) {i : Nat} {v : Value} {d : D} {bs : List Addr} {h' : Heap}
    (al : ∀ x ∈ ds, ∀ y ∈ ds, PySem.W.alike x y = true) (hm : d ∈ ds) (hv : its[i]? = some v) (hk : ∀ b o, s.heap.get? b = some o → h'.get? b = some o) (hr : Reads h' v d bs) : ∃ x, RelV x v ∧ Rep X.K H S x d := by
  have hi : i < xs.length := by rw [rv.length]; exact (List.getElem?_eq_some_iff.mp hv).1
  obtain ⟨u, h1, h2⟩ := rv.get (List.getElem?_eq_getElem hi)
  rw [hv] at h1; cases h1
  obtain ⟨d', h3, h4⟩ := r.getV (List.getElem?_eq_getElem hi)
  obtain ⟨as, h5⟩ := Rep.reads I h4 h2
  have e : d' = d := PySem.W.alike_unique d' d v as bs (al _ (List.mem_of_getElem? h3) _ hm) (PySem.W.reads_keeps hk h5) hr
  exact ⟨_, h2, e ▸ h4⟩
def biVal : Bi → Value
  | .len => .builtin "len" | .int => .type "int" | .list => .type "list" | .tuple => .type "tuple" | .sum => .builtin "sum"
  | .min1 => .builtin "min" | .max1 => .builtin "max" | .sorted => .builtin "sorted" | .all => .builtin "all" | .any => .builtin "any" | .abs => .builtin "abs" | .min2 => .builtin "min" | .max2 => .builtin "max"
theorem eachIs_of {R : Value → D → Prop} : ∀ {ds : List D} {us : List Value} {xs : List V}, Vals xs us → Reps K H S xs ds → (∀ x u d, RelV x u → Rep K H S x d → R u d) → PySem.W.EachIs R us ds
  | [], _, _, rv, r, _ => by cases r; cases rv; exact .nil
  | d :: ds, _, _, rv, r, h => by
    cases r with
    | cons r1 r2 => cases rv with
      | cons v1 v2 => exact .cons (h _ _ _ v1 r1) (eachIs_of v2 r2 h)
theorem of_eachIs : ∀ {ds : List D} {us : List Value}, PySem.W.EachIs (fun u d => ∃ x, RelV x u ∧ Rep K H S x d) us ds → ∃ xs, Vals xs us ∧ Reps K H S xs ds
  | [], _, h => by cases h; exact ⟨[], .nil, .nil⟩
  | d :: ds, _, h => by
    cases h with
    | cons h1 h2 =>
      obtain ⟨x, a, b⟩ := h1
      obtain ⟨xs, c, e⟩ := of_eachIs h2
      exact ⟨x :: xs, .cons a c, .cons b e⟩
theorem depth_mem {xs : List D} {x : D} (h : x ∈ xs) : x.depth ≤ PyData.depthAll xs := by
  induction xs with
  | nil => cases h
  | cons y ys ih =>
    rcases List.mem_cons.mp h with e | h
    · subst e; exact Nat.le_max_left _ _
    · exact Nat.le_trans (ih h) (Nat.le_max_right _ _)
def frBi : Bi → Nat | .list | .sorted => 1 | _ => 0
theorem call_bi (b : Bi) (hc : X.calm = true) (hu : X.A.units + 70 < cLine) : CallR X (biVal b) (rCV X.K (frBi b) (biD b)) := by
  intro pins s σ H vs us Q I rv ⟨S, ds, d, al, rs, hf, q⟩
  have hint : ∀ {i : Int} {s' : Shared} {u : Value}, d = .int i → Inv X pins σ H s' → (∃ t, u = .int i t) → EP X pins σ Q u s' := fun {i s' u} e I' hu => ⟨.int i, H, I', hu, q _ _ Keep.refl (ResOk.atom (by rw [e]; exact .int i) (by rw [e]; exact fun _ z => nomatch z))⟩
  have hQi : ∀ {i : Int}, d = .int i → Q (.int i) H := fun {i} e => q _ _ Keep.refl (ResOk.atom (by rw [e]; exact .int i) (by rw [e]; exact fun _ z => nomatch z))
  have hQb : ∀ {i : Bool}, d = .bool i → Q (.bl i) H := fun {i} e => q _ _ Keep.refl (ResOk.atom (by rw [e]; exact .bl i) (by rw [e]; exact fun _ z => nomatch z))
  cases b
  case len =>
    match ds, hf with
    | [a], hf =>
      obtain ⟨x, rfl, rx⟩ := reps1 rs
      simp only [biD, Option.map_eq_some_iff] at hf
      obtain ⟨n, hn, rfl⟩ := hf
      cases rx <;> simp only [lenD, reduceCtorEq, Option.some.injEq, Option.ite_none_right_eq_some] at hn
      case str x => exact call_len_str pins s σ H _ us Q I rv ⟨x, rfl, str_len_le hn.1, by rw [hn.2]; exact hQi rfl⟩
      case lst h r => exact call_len_seq pins s σ H _ us Q I rv ⟨_, _, rfl, .inl h.sq, by rw [r.length, hn]; exact hQi rfl⟩
      case tup h r => exact call_len_seq pins s σ H _ us Q I rv ⟨_, _, rfl, .inr h.sq, by rw [r.length, hn]; exact hQi rfl⟩
  case int =>
    match ds, hf with
    | [.int i], hf =>
      obtain ⟨x, rfl, rx⟩ := reps1 rs
      simp only [biD, Option.some.injEq] at hf
      subst hf
      rw [rep_int rx] at rv
      exact call_int1 pins s σ H _ us Q I rv (.inl ⟨i, rfl, hQi rfl⟩)
  case list =>
    match ds, hf with
    | [.list xs], hf =>
      obtain ⟨x, rfl, rx⟩ := reps1 rs
      simp only [biD, Option.some.injEq] at hf
      subst hf
      obtain ⟨a, ys, rfl, la, ra⟩ := rep_lst rx
      exact call_list_of pins s σ H _ us Q I rv ⟨a, ys, rfl, .inl la.sq, fun l hl => q _ _ (Keep.new hl) (res_newL al hl ra)⟩
    | [.tuple xs], hf =>
      obtain ⟨x, rfl, rx⟩ := reps1 rs
      simp only [biD, Option.some.injEq] at hf
      subst hf
      obtain ⟨a, ys, rfl, la, ra⟩ := rep_tup rx
      exact call_list_of pins s σ H _ us Q I rv ⟨a, ys, rfl, .inr la.sq, fun l hl => q _ _ (Keep.new hl) (res_newL al hl ra)⟩
  case tuple =>
    match ds, hf with
    | [.list xs], hf =>
      obtain ⟨x, rfl, rx⟩ := reps1 rs
      simp only [biD, Option.some.injEq] at hf
      subst hf
      obtain ⟨a, ys, rfl, la, ra⟩ := rep_lst rx
      exact call_tuple_of pins s σ H _ us Q I rv ⟨a, ys, rfl, .inl ⟨la.sq, fun l hl => q _ _ (Keep.new hl) (res_newT al hl ra)⟩⟩
    | [.tuple xs], hf =>
      obtain ⟨x, rfl, rx⟩ := reps1 rs
      simp only [biD, Option.some.injEq] at hf
      subst hf
      obtain ⟨a, ys, rfl, la, ra⟩ := rep_tup rx
      exact call_tuple_of pins s σ H _ us Q I rv ⟨a, ys, rfl, .inr ⟨la.sq, q _ _ Keep.refl (ResOk.atom rx fun _ e => nomatch e)⟩⟩
  case sum =>
    match ds, hf with
    | [.list xs], hf =>
      obtain ⟨x, rfl, rx⟩ := reps1 rs
      simp only [biD, Option.map_eq_some_iff] at hf
      obtain ⟨ns, hn, rfl⟩ := hf
      obtain ⟨a, ys, rfl, la, ra⟩ := rep_lst rx
      have e := ints_vals hn ra
      subst e
      exact cr_sum hc pins s σ H _ us Q I rv ⟨a, ns, rfl, la.sq, hQi rfl⟩
    | [.tuple xs], hf =>
      obtain ⟨x, rfl, rx⟩ := reps1 rs
      simp only [biD, Option.map_eq_some_iff] at hf
      obtain ⟨ns, hn, rfl⟩ := hf
      obtain ⟨a, ys, rfl, la, ra⟩ := rep_tup rx
      have e := ints_vals hn ra
      subst e
      obtain ⟨its, rt, ht, _⟩ := I.tuple la.sq
      rw [Vals.ref1 rv]
      have hi := rt.ints
      obtain ⟨zs, hx⟩ := hi.allInts.items
      have hn2 : numsOf (intItems zs).toList = ns := by rw [← hx]; exact hi.numsOf
      rw [nums_intItems] at hn2
      rw [hx] at ht
      refine PySem.W.ktm_sumG (I.ok.hd hc) ht fun h' tk t' hk => ?_
      refine hint (i := ns.sum) rfl (I.kept hk) ⟨t', ?_⟩
      rw [preSum_eq, List.take_of_length_le (by simp), hn2]
  case min1 =>
    match ds, hf with
    | [.list (y :: xs)], hf =>
      obtain ⟨x, rfl, rx⟩ := reps1 rs
      simp only [biD, Option.ite_none_right_eq_some, Option.some.injEq] at hf
      obtain ⟨ha, rfl⟩ := hf
      obtain ⟨h1, h2⟩ := alikeAll_of ha
      obtain ⟨a, ys, rfl, la, ra⟩ := rep_lst rx
      obtain ⟨its, rt, ht, _⟩ := I.list la.sq
      rw [Vals.ref1 rv]
      obtain ⟨as, hr⟩ := Reps.reads I ra rt
      refine PySem.W.min_list_data (I.ok.hd hc) ht.isList (by simpa using hr) h1 (by omega) fun i v h' tk bs hv hrd hk => ?_
      obtain ⟨w, hw, rw'⟩ := pick_rep I ra rt h1.1 (minD_mem y xs) (by simpa using hv) hk hrd
      exact ⟨w, H, I.kept hk, hw, q _ _ Keep.refl (ResOk.zero rw')⟩
    | [.tuple (y :: xs)], hf =>
      obtain ⟨x, rfl, rx⟩ := reps1 rs
      simp only [biD, Option.ite_none_right_eq_some, Option.some.injEq] at hf
      obtain ⟨ha, rfl⟩ := hf
      obtain ⟨h1, h2⟩ := alikeAll_of ha
      obtain ⟨a, ys, rfl, la, ra⟩ := rep_tup rx
      obtain ⟨its, rt, ht, _⟩ := I.tuple la.sq
      rw [Vals.ref1 rv]
      obtain ⟨as, hr⟩ := Reps.reads I ra rt
      refine PySem.W.min_tuple_data (I.ok.hd hc) ht (by simpa using hr) h1 (by omega) fun i v h' tk bs hv hrd hk => ?_
      obtain ⟨w, hw, rw'⟩ := pick_rep I ra rt h1.1 (minD_mem y xs) (by simpa using hv) hk hrd
      exact ⟨w, H, I.kept hk, hw, q _ _ Keep.refl (ResOk.zero rw')⟩
  case max1 =>
    match ds, hf with
    | [.list (y :: xs)], hf =>
      obtain ⟨x, rfl, rx⟩ := reps1 rs
      simp only [biD, Option.ite_none_right_eq_some, Option.some.injEq] at hf
      obtain ⟨ha, rfl⟩ := hf
      obtain ⟨h1, h2⟩ := alikeAll_of ha
      obtain ⟨a, ys, rfl, la, ra⟩ := rep_lst rx
      obtain ⟨its, rt, ht, _⟩ := I.list la.sq
      rw [Vals.ref1 rv]
      obtain ⟨as, hr⟩ := Reps.reads I ra rt
      refine PySem.W.max_list_data (I.ok.hd hc) ht.isList (by simpa using hr) h1 (by omega) fun i v h' tk bs hv hrd hk => ?_
      obtain ⟨w, hw, rw'⟩ := pick_rep I ra rt h1.1 (maxD_mem y xs) (by simpa using hv) hk hrd
      exact ⟨w, H, I.kept hk, hw, q _ _ Keep.refl (ResOk.zero rw')⟩
    | [.tuple (y :: xs)], hf =>
      obtain ⟨x, rfl, rx⟩ := reps1 rs
      simp only [biD, Option.ite_none_right_eq_some, Option.some.injEq] at hf
      obtain ⟨ha, rfl⟩ := hf
      obtain ⟨h1, h2⟩ := alikeAll_of ha
      obtain ⟨a, ys, rfl, la, ra⟩ := rep_tup rx
      obtain ⟨its, rt, ht, _⟩ := I.tuple la.sq
      rw [Vals.ref1 rv]
      obtain ⟨as, hr⟩ := Reps.reads I ra rt
      refine PySem.W.max_tuple_data (I.ok.hd hc) ht (by simpa using hr) h1 (by omega) fun i v h' tk bs hv hrd hk => ?_
      obtain ⟨w, hw, rw'⟩ := pick_rep I ra rt h1.1 (maxD_mem y xs) (by simpa using hv) hk hrd
      exact ⟨w, H, I.kept hk, hw, q _ _ Keep.refl (ResOk.zero rw')⟩
  case sorted =>
    match ds, hf with
    | [.list xs], hf =>
      obtain ⟨x, rfl, rx⟩ := reps1 rs
      simp only [biD, Option.ite_none_right_eq_some, Option.some.injEq] at hf
      obtain ⟨ha, rfl⟩ := hf
      simp only [sortOk, Bool.and_eq_true, Bool.or_eq_true] at ha
      obtain ⟨⟨h1, h2⟩, h3⟩ := ha
      have h3' : PyData.depthAll xs ≤ 60 := of_decide_eq_true h3
      obtain ⟨a, ys, rfl, la, ra⟩ := rep_lst rx
      obtain ⟨its, rt, ht, hz⟩ := I.list la.sq
      rw [Vals.ref1 rv]
      have hmap : xs.map (fun d : D => d) = xs := by simp
      refine PySem.W.sorted_data (enc := fun d : D => d) (R := fun u d => ∃ x, RelV x u ∧ Rep X.K H S x d) ht.isList (eachIs_of rt ra fun x u d a b => ⟨x, a, b⟩) (eachIs_of rt ra fun x u d a b => Rep.reads I b a) (by rw [hmap]; exact alike_all h1) (by
        rw [hmap]
        rcases h2 with h2 | h2
        · refine .inl fun d hd => ?_
          have := List.all_eq_true.mp h2 d hd
          cases d <;> simp [isTupNE] at this
          rename_i zs
          cases zs with
          | nil => simp [isTupNE] at this
          | cons z zs => exact ⟨z, zs, rfl⟩
        · refine .inr fun d hd => ?_
          have := List.all_eq_true.mp h2 d hd
          simp only [Bool.and_eq_true] at this
          refine ⟨notNon this.1, fun zs e => ?_⟩
          subst e
          simp [isTup] at this) (by rw [← ra.length]; exact hz) (fun d hd => by have := depth_mem hd; omega) fun out hl er => ?_
      obtain ⟨zs, vz, rz⟩ := of_eachIs er
      obtain ⟨ep, he'⟩ := PyProof.Rows.sortedAll_at s.heap its out.toArray
      have hlen : zs.length ≤ sizeLine := by rw [vz.length, hl, ← ra.length]; exact hz
      have hp : H (s.heap.objs.size + 1) = none := I.hok.fresh (Nat.le_succ _)
      exact ⟨.ref _, upd H (s.heap.objs.size + 1) (.lst zs), I.laid (t' := s.toks) (fun _ _ => PyProof.Rows.sortedAll_old) (Nat.le_succ _) ⟨hlen, out, ep, vz, he'⟩, rfl, q _ _ (Keep.new hp) (res_newL al hp rz)⟩
  case all =>
    match ds, hf with
    | [.list xs], hf =>
      obtain ⟨x, rfl, rx⟩ := reps1 rs
      simp only [biD, Option.map_eq_some_iff] at hf
      obtain ⟨ns, hn, rfl⟩ := hf
      obtain ⟨a, ys, rfl, la, ra⟩ := rep_lst rx
      have e := bls_vals hn ra
      subst e
      exact cr_all hc pins s σ H _ us Q I rv ⟨a, ns, rfl, la.sq, hQb rfl⟩
  case any =>
    match ds, hf with
    | [.list xs], hf =>
      obtain ⟨x, rfl, rx⟩ := reps1 rs
      simp only [biD, Option.map_eq_some_iff] at hf
      obtain ⟨ns, hn, rfl⟩ := hf
      obtain ⟨a, ys, rfl, la, ra⟩ := rep_lst rx
      have e := bls_vals hn ra
      subst e
      exact cr_any hc pins s σ H _ us Q I rv ⟨a, ns, rfl, la.sq, hQb rfl⟩
  case abs =>
    match ds, hf with
    | [.int i], hf =>
      obtain ⟨x, rfl, rx⟩ := reps1 rs
      simp only [biD, Option.some.injEq] at hf
      subst hf
      rw [rep_int rx] at rv
      exact call_abs pins s σ H _ us Q I rv ⟨i, rfl, hQi rfl⟩
  case min2 =>
    match ds, hf with
    | [.int i, .int j], hf =>
      obtain ⟨x, y, rfl, rx, ry⟩ := reps2 rs
      simp only [biD, Option.some.injEq] at hf
      subst hf
      rw [rep_int rx, rep_int ry] at rv
      exact call_min2 hc pins s σ H _ us Q I rv ⟨i, j, rfl, hQi rfl⟩
  case max2 =>
    match ds, hf with
    | [.int i, .int j], hf =>
      obtain ⟨x, y, rfl, rx, ry⟩ := reps2 rs
      simp only [biD, Option.some.injEq] at hf
      subst hf
      rw [rep_int rx, rep_int ry] at rv
      exact call_max2 hc pins s σ H _ us Q I rv ⟨i, j, rfl, hQi rfl⟩
end
end Cw
end

section
namespace Cw
open PySem PySem.Spec PyProof.Rows L2

def notStar : Expr → Bool
  | .Starred .. => false
  | _ => true
theorem star_cons {e : Expr} {es : List Expr} {env : PySem.Env} (h : notStar e = true) : starEach (e :: es) env = (false, eval e env) :: starEach es env := by
  cases e <;> first | rfl | (simp [notStar] at h)
theorem star_none {es : List Expr} {env : PySem.Env} {pos : Pos} (h : es.all notStar = true) : (backTo pos (starEach es env)).any (·.1) = false := by
  induction es with
  | nil => rfl
  | cons e es ih =>
    simp only [List.all_cons, Bool.and_eq_true] at h
    rw [star_cons h.1]
    unfold backTo at ih ⊢
    simpa using ih h.2
section
variable {X : Cx} {A0 : Prot} {EA : EAt} {W : WX} {k ka kb kc : Nat} {a b c e : Expr} {es : List Expr} {fa fb fc : Env → Out D} {fs : Env → Out (List D)} {pos p2 p : Pos}
def biName : Bi → Str
  | .len => "len" | .int => "int" | .list => "list" | .tuple => "tuple" | .sum => "sum" | .min1 => "min" | .max1 => "max" | .sorted => "sorted" | .all => "all" | .any => "any" | .abs => "abs" | .min2 => "min" | .max2 => "max"
theorem tvC {f : List D → Option D} {Q : VK} {σ : L2.St} {H : Hp} (h : TEv X.K A0 EA W k (fun r => (fs r).bind fun ds r1 => lift (f ds) r1) σ H Q) : tCB (rCV X.K k f) (TAv X.K A0 EA W fs) σ H Q := by
  obtain ⟨r, Fs, G, h⟩ := h
  refine ⟨r, Fs, G, h.bind fun ds r1 _ h1 => fun vs H1 k1 G1 q1 => ?_⟩
  obtain ⟨d, hd, h2⟩ := h1.lift
  exact ⟨Sv A0 Fs, ds, d, G1.alS, q1, hd, fun v H3 k3 q3 => h2 v H3 (k1.trans (kf k3)) (G1.keep0 k3) (q3.back k1)⟩
theorem te_bi (bi : Bi) (hc : X.calm = true) (hu : X.A.units + 70 < cLine) (hg : Gl X (biName bi)) (hm : X.mg (biName bi) = none) (ha : PA X (e :: es) (TAv X.K A0 EA W fs)) (he : notStar e = true) (hes : es.all notStar = true) :
    PE X (.Call (.Name (biName bi) p) (e :: es) [] pos) (TEv X.K A0 EA W (frBi bi) fun r => (fs r).bind fun ds r1 => lift (biD bi ds) r1) := by
  have hcall := call_bi bi (X := X) hc hu
  refine PE.imp (t := tCB (rCV X.K (frBi bi) (biD bi)) (TAv X.K A0 EA W fs)) ?_ fun _ _ _ q => tvC q
  cases bi
  case len => exact pe_callB hcall hg hm (by rfl) ha (by decide) (by decide) (star_cons he) (star_none hes)
  case int => exact pe_callTy hcall hg hm (by rfl) ha (by decide) (by decide) (star_cons he) (star_none hes)
  case list => exact pe_callTy hcall hg hm (by rfl) ha (by decide) (by decide) (star_cons he) (star_none hes)
  case tuple => exact pe_callTy hcall hg hm (by rfl) ha (by decide) (by decide) (star_cons he) (star_none hes)
  all_goals exact pe_callB hcall hg hm (by rfl) ha (by decide) (by decide) (star_cons he) (star_none hes)
def tyName : Ty → String
  | .int => "int" | .bool => "bool" | .str => "str" | .list => "list" | .tuple => "tuple"
def tyS : Ty → Str
  | .int => "int" | .bool => "bool" | .str => "str" | .list => "list" | .tuple => "tuple"
def tyOfD : D → String
  | .none => "NoneType" | .bool _ => "bool" | .int _ => "int" | .str _ => "str" | .list _ => "list" | .tuple _ => "tuple" | .dict _ => "dict"
theorem kit_d (t : Ty) (d : D) : kitB (tyOfD d) (tyName t) = some (isaTy t d) := by
  cases d <;> cases t <;> with_unfolding_all rfl
theorem kit_any {K : Fr} (d : D) : ∀ ts : List Ty, PySem.W.kitAny K (.type (tyOfD d)) (ts.map fun t => .type (tyName t)) = some (ts.any fun t => isaTy t d)
  | [] => rfl
  | t :: ts => kitAny_cons (kit_ty (kit_d t d)) (fun e => by rw [List.any_cons, e, Bool.false_or]; exact kit_any d ts) fun e => by rw [List.any_cons, e, Bool.true_or]
theorem tyx_of {K : Fr} {H : Hp} {S : Addr → Prop} {v : V} {d : D} (h : Rep K H S v d) : TyX K H v (.type (tyOfD d)) := by
  cases h with
  | non => exact .base .non
  | bl b => exact .base (.bl b)
  | int i => exact .base (.int i)
  | str x => exact .base (.str x)
  | lst h r =>
    rcases h with ⟨h | ⟨o, h⟩, _⟩ | ⟨o, its, n, e, c, _⟩
    · exact .base (.lst h)
    · exact .base (.frz h)
    · exact .kList e c
  | tup h r =>
    rcases h with ⟨h | ⟨o, h⟩, _⟩ | ⟨o, its, n, e, c, _⟩
    · exact .base (.tup h)
    · exact .fTuple h
    · exact .kTuple e c
theorem boot_ty (t : Ty) : bootBuiltins (tyS t) = some (.type (tyName t)) := by cases t <;> rfl
theorem tyS_1 (t : Ty) : tyS t ≠ "__name__" := by cases t <;> decide
theorem tyS_2 (t : Ty) : (tyS t == ("__debug__" : Str)) = false := by cases t <;> decide
theorem pe_tyN (t : Ty) (hg : Gl X (tyS t)) (hm : X.mg (tyS t) = none) : PE X (.Name (tyS t) p) (tC (.ty (tyName t))) :=
  pe_bltn hg hm (boot_ty t) (show RelV (.ty (tyName t)) (.type (tyName t)) from rfl) (tyS_1 t) (tyS_2 t)
/-- names of types -/
def tyNames : List Ty → List Expr → Bool
  | [], [] => true
  | t :: ts, .Name x _ :: es => decide (x = tyS t) && tyNames ts es
  | _, _ => false
def tCs (vs : List V) : TA := fun _ H Q => Q vs H
theorem pa_tys : ∀ {ts : List Ty} {es : List Expr}, (∀ t ∈ ts, Gl X (tyS t) ∧ X.mg (tyS t) = none) → tyNames ts es = true → PA X es (tCs (ts.map fun t => .ty (tyName t)))
  | [], [], _, _ => pa_nil
  | t :: ts, e :: es, hg, h => by
    cases e <;> simp only [tyNames, Bool.false_eq_true, Bool.and_eq_true, decide_eq_true_eq] at h
    obtain ⟨rfl, h⟩ := h
    exact pa_cons (pe_tyN t (hg t List.mem_cons_self).1 (hg t List.mem_cons_self).2) (pa_tys (fun t ht => hg t (List.mem_cons_of_mem _ ht)) h) rfl
  | [], _ :: _, _, h => by simp [tyNames] at h
  | _ :: _, [], _, h => by simp [tyNames] at h
theorem cls_tys : ∀ ts : List Ty, Paired ClsV (ts.map fun t => V.ty (tyName t)) (ts.map fun t => Value.type (tyName t))
  | [] => .nil
  | t :: ts => .cons (.ty _) (cls_tys ts)
theorem plain_isa (d : D) (t : Ty) : True := trivial
theorem te_isaN {ts : List Ty} {j : Nat} (hgi : Gl X "isinstance") (hmi : X.mg "isinstance" = none) (ha : PE X a (TEv X.K A0 EA W ka fa)) (hs : notStar a = true) (hes : PA X es (tCs (ts.map fun t => .ty (tyName t)))) (hl : ts.length ≤ 1000) :
    PE X (.Call (.Name "isinstance" p) [a, .Tuple es j p2] [] pos) (TEv X.K A0 EA W 0 fun r => (fa r).bind fun x r1 => if x.plain then .ok (.bool (ts.any fun t => isaTy t x)) r1 else .bad) := by
  refine PE.imp (pe_callB call_isiT hgi hmi (by rfl) (pa_cons ha (pa_cons (pe_tup hes) pa_nil rfl) (star_cons hs)) (by decide) (by decide) (star_cons hs) rfl) ?_
  rintro σ H Q ⟨r, Fs, G, h⟩
  refine ⟨r, Fs, G, h.bind fun x r1 _ h1 => fun v1 H1 k1 G1 q1 => ?_⟩
  by_cases hx : x.plain = true
  · rw [if_pos hx] at h1
    refine ⟨by rw [List.length_map, sizeLine_eq]; omega, fun t ht => ?_⟩
    refine ⟨v1, t, _, _, _, _, rfl, upd_same, cls_tys ts, tyx_of (q1.1.keep (M := fun _ => False) (Keep.new ht) fun _ z => z.elim), kit_any x ts, ?_⟩
    exact h1 _ _ (k1.trans (Keep.new ht)) (G1.keep0 (Keep.new ht)) (ResOk.zero (.bl _))
  · rw [if_neg hx] at h1; exact h1.elim
theorem te_isa1 {t : Ty} (hgi : Gl X "isinstance") (hmi : X.mg "isinstance" = none) (hg : Gl X (tyS t)) (hm : X.mg (tyS t) = none) (ha : PE X a (TEv X.K A0 EA W ka fa)) (hs : notStar a = true) :
    PE X (.Call (.Name "isinstance" p) [a, .Name (tyS t) p2] [] pos) (TEv X.K A0 EA W 0 fun r => (fa r).bind fun x r1 => if x.plain then .ok (.bool ([t].any fun t => isaTy t x)) r1 else .bad) := by
  refine PE.imp (pe_callB call_isi hgi hmi (by rfl) (pa_cons ha (pa_cons (pe_tyN t hg hm) pa_nil rfl) (star_cons hs)) (by decide) (by decide) (star_cons hs) rfl) ?_
  rintro σ H Q ⟨r, Fs, G, h⟩
  refine ⟨r, Fs, G, h.bind fun x r1 _ h1 => fun v1 H1 k1 G1 q1 => ?_⟩
  by_cases hx : x.plain = true
  · rw [if_pos hx] at h1
    refine ⟨v1, _, _, _, _, rfl, .ty _, tyx_of q1.1, kit_ty (kit_d t x), ?_⟩
    exact h1 _ _ k1 G1 (ResOk.zero (by simpa using Rep.bl _))
  · rw [if_neg hx] at h1; exact h1.elim
def chF (op op' : COp) (fa fb fc : Env → Out D) : Env → Out D := fun r => (fa r).bind fun x r1 => (fb r1).bind fun y r2 => (lift (cmpD op x y) r2).bind fun k r3 =>
  if k then (fc r3).bind fun z r4 => lift ((cmpD op' y z).map .bool) r4 else .ok (.bool false) r3
theorem tvChain {op op' : COp} {σ : L2.St} {H : Hp} {Q : VK} (h : TEv X.K A0 EA W 0 (chF op op' fa fb fc) σ H Q) :
    tChain (rVal X.K 0 fun a b => (cmpD op a b).map .bool) (rVal X.K 0 fun a b => (cmpD op' a b).map .bool) (TEv X.K A0 EA W ka fa) (TEv X.K A0 EA W kb fb) (TEv X.K A0 EA W kc fc) σ H Q := by
  obtain ⟨r, Fs, G, h⟩ := h
  refine ⟨r, Fs, G, h.bind fun x r1 _ h1 => fun v1 H1 k1 G1 q1 => ⟨r1, Fs, G1, ?_⟩⟩
  refine (h1.bind (R' := fun y r2 _ => Pst X.K A0 EA W σ Fs H ((lift (cmpD op x y) r2).bind fun k r3 => if k then (fc r3).bind fun z r4 => lift ((cmpD op' y z).map .bool) r4 else .ok (.bool false) r3) fun d r' _ =>
    ∀ v H', Keep (inF Fs) H H' → Good X.K A0 σ H' r' Fs → ResOk X.K H H' (Sv A0 Fs) 0 v d → Q v H') fun y r2 _ h2 => h2).later k1 fun y r2 h3 => fun v2 H2 k2 G2 q2 => ?_
  obtain ⟨t, ht, h4⟩ := (h3.bind (R' := fun t r3 _ => Pst X.K A0 EA W σ Fs H (if t then (fc r3).bind fun z r4 => lift ((cmpD op' y z).map .bool) r4 else .ok (.bool false) r3) fun d r' _ =>
    ∀ v H', Keep (inF Fs) H H' → Good X.K A0 σ H' r' Fs → ResOk X.K H H' (Sv A0 Fs) 0 v d → Q v H') fun t r3 _ h => h).lift
  refine ⟨Sv A0 Fs, x, y, .bool t, G2.alS, q1.1.keep k2 sub_in, q2.1, by show (cmpD op x y).map _ = _; rw [ht]; rfl, fun v H3 k3 q3 => ⟨t, rep_bl q3.1, ?_⟩⟩
  have k13 : Keep (inF Fs) H H3 := (k1.trans k2).trans (kf k3)
  cases t with
  | false =>
    rw [if_neg Bool.false_ne_true]
    rw [if_neg Bool.false_ne_true] at h4
    exact h4 _ _ k13 (G2.keep0 k3) (ResOk.zero (.bl _))
  | true =>
    rw [if_pos rfl]
    rw [if_pos rfl] at h4
    refine ⟨r2, Fs, G2.keep0 k3, (h4.bind (R' := fun z r4 _ => ∃ d, (cmpD op' y z).map .bool = some d ∧ ∀ v H', Keep (inF Fs) H H' → Good X.K A0 σ H' r4 Fs → ResOk X.K H H' (Sv A0 Fs) 0 v d → Q v H') fun z r4 _ h5 => h5.lift).later k13 fun z r4 ⟨d, hd, h6⟩ => fun v4 H4 k4 G4 q4 => ?_⟩
    have k34 : Keep (inF Fs) H2 H4 := (kf k3).trans k4
    exact ⟨Sv A0 Fs, y, z, d, G4.alS, q2.1.keep k34 sub_in, q4.1, hd, fun v H5 k5 q5 => h6 v H5 ((k13.trans k4).trans (kf k5)) (G4.keep0 k5) (q5.back (k13.trans k4))⟩
theorem te_chain {op op' : COp} (hu : X.A.units + 64 < cLine) (ha : PE X a (TEv X.K A0 EA W ka fa)) (hb : PE X b (TEv X.K A0 EA W kb fb)) (hc : PE X c (TEv X.K A0 EA W kc fc)) (hs : ∀ es k p, c ≠ .Set es k p) :
    PE X (.Compare a [copOf op, copOf op'] [b, c] pos) (TEv X.K A0 EA W 0 (chF op op' fa fb fc)) :=
  PE.imp (pe_chain (op_cmp op hu) (op_cmp op' hu) ha hb hc (by show behindInMarks _ c = false; exact nobeh fun _ => hs)) fun _ _ _ q => tvChain q
/-- a test whose value is a bool -/
theorem tvBool {f : Env → Out D} {σ : L2.St} {H : Hp} {Q : Bool → Hp → Prop} (hb : ∀ r d r', f r = .ok d r' → ∃ b, d = .bool b) (h : TTv X.K A0 EA W (fun r => tru (f r)) σ H Q) : TEv X.K A0 EA W 0 f σ H fun x H' => ∃ k, x = .bl k ∧ Q k H' := by
  obtain ⟨r, Fs, G, h⟩ := h
  refine ⟨r, Fs, G, h.bind fun d r2 e h1 => fun v H' k1 G1 q1 => ?_⟩
  obtain ⟨b, hb', h2⟩ := h1.lift
  obtain ⟨b', rfl⟩ := hb _ _ _ e
  simp only [truthD, Option.some.injEq] at hb'
  subst hb'
  exact ⟨b', rep_bl q1.1, h2 H' k1 G1⟩
theorem bool_lift {r2 r' : Env} {o : Option Bool} {d : D} (h : lift (o.map .bool) r2 = .ok d r') : ∃ b, d = .bool b := by
  cases o with
  | none => simp [Cw.lift] at h
  | some b => simp only [Cw.lift, Option.map_some, Out.ok.injEq] at h; exact ⟨b, h.1.symm⟩
theorem bind_ok {α β : Type} {o : Out α} {g : α → Env → Out β} {b : β} {r' : Env} (h : o.bind g = .ok b r') : ∃ a r1, o = .ok a r1 ∧ g a r1 = .ok b r' := by
  cases o with
  | ok a r1 => exact ⟨a, r1, rfl, h⟩
  | exc _ _ => cases h
  | bad => cases h
theorem tt_chain {op op' : COp} (hu : X.A.units + 64 < cLine) (ha : PE X a (TEv X.K A0 EA W ka fa)) (hb : PE X b (TEv X.K A0 EA W kb fb)) (hc : PE X c (TEv X.K A0 EA W kc fc)) (hs : ∀ es k p, c ≠ .Set es k p) :
    PT X (.Compare a [copOf op, copOf op'] [b, c] pos) (TTv X.K A0 EA W fun r => tru (chF op op' fa fb fc r)) := by
  refine PT.imp (pt_chain (op_cmp op hu) (op_cmp op' hu) ha hb hc (by show behindInMarks _ c = false; exact nobeh fun _ => hs)) fun σ H Q q => tvChain (tvBool (fun r d r' e => ?_) q)
  obtain ⟨x, r1, _, e⟩ := bind_ok e
  obtain ⟨y, r2, _, e⟩ := bind_ok e
  obtain ⟨t, r3, _, e⟩ := bind_ok e
  cases t with
  | true => rw [if_pos rfl] at e; obtain ⟨z, r4, _, e⟩ := bind_ok e; exact bool_lift e
  | false => cases e; exact ⟨_, rfl⟩
def TOv (K : Fr) (A0 : Prot) (EA : EAt) (W : WX) (f : Env → Out (Option Int)) : TO := fun σ H Q => ∃ r Fs, Good K A0 σ H r Fs ∧ Pst K A0 EA W σ Fs H (f r) fun ds r' _ =>
  ∀ H', Keep (inF Fs) H H' → Good K A0 σ H' r' Fs → Q ds H'
theorem PO.imp {e : Option Expr} {t t' : TO} (h : PO X e t) (i : ∀ σ H Q, t' σ H Q → t σ H Q) : PO X e t' := ⟨fun pins s σ H Q I q => h.run pins s σ H Q I (i σ H Q q)⟩
theorem to_none : PO X none (TOv X.K A0 EA W fun r => .ok none r) := PO.imp po_none fun σ H Q ⟨r, Fs, G, h⟩ => h H Keep.refl G
theorem to_some (ha : PE X a (TEv X.K A0 EA W ka fa)) : PO X (some a) (TOv X.K A0 EA W fun r => (fa r).bind fun x r1 => match x with
    | .int i => .ok (some i) r1
    | _ => .bad) := by
  refine PO.imp (po_some ha) fun σ H Q ⟨r, Fs, G, h⟩ => ⟨r, Fs, G, h.bind fun x r1 _ h1 => fun v1 H1 k1 G1 q1 => ?_⟩
  cases x with
  | int i => exact ⟨i, rep_int q1.1, h1 H1 k1 G1⟩
  | _ => exact h1.elim
theorem te_slc {lo hi : Option Expr} {fl fh : Env → Out (Option Int)} (ha : PE X a (TEv X.K A0 EA W ka fa)) (hl : PO X lo (TOv X.K A0 EA W fl)) (hh : PO X hi (TOv X.K A0 EA W fh)) :
    PE X (.Subscript a (.Slice lo hi none p2) pos) (TEv X.K A0 EA W 1 fun r => (fa r).bind fun x r1 => (fl r1).bind fun l r2 => (fh r2).bind fun h r3 => lift (slcD x l h) r3) := by
  refine PE.imp (pe_slice sl_val ha hl hh) fun σ H Q ⟨r, Fs, G, h⟩ => ⟨r, Fs, G, h.bind fun x r1 _ h1 => fun v1 H1 k1 G1 q1 => ⟨r1, Fs, G1, ?_⟩⟩
  refine (h1.bind (R' := fun l r2 _ => Pst X.K A0 EA W σ Fs H ((fh r2).bind fun h r3 => lift (slcD x l h) r3) fun d r' _ =>
    ∀ v H', Keep (inF Fs) H H' → Good X.K A0 σ H' r' Fs → ResOk X.K H H' (Sv A0 Fs) 1 v d → Q v H') fun y r2 _ h2 => h2).later k1 fun l r2 h3 => fun H2 k2 G2 => ⟨r2, Fs, G2, ?_⟩
  have k12 := k1.trans k2
  refine (h3.bind (R' := fun h r3 _ => ∃ d, slcD x l h = some d ∧ ∀ v H', Keep (inF Fs) H H' → Good X.K A0 σ H' r3 Fs → ResOk X.K H H' (Sv A0 Fs) 1 v d → Q v H') fun h r3 _ h4 => h4.lift).later k12 fun u r3 ⟨d, hd, h5⟩ => fun H3 k3 G3 => ?_
  exact ⟨Sv A0 Fs, x, d, G3.alS, q1.1.keep (k2.trans k3) sub_in, hd, fun v H4 k4 q4 => h5 v H4 ((k12.trans k3).trans (kf k4)) (G3.keep0 k4) (q4.back (k12.trans k3))⟩
theorem getA_at {σ : L2.St} {H : Hp} {r : Env} {Fs : List (Option Addr)} (G : Good X.K A0 σ H r Fs) {i : Nat} {d : D} (h : getA r i = some d) :
    ∃ v, σ[i]? = some (some v) ∧ (Rep X.K H (Sv A0 Fs) v d ∨ ∃ p, v = .ref p ∧ OwnL X.K H (Sv A0 Fs) p d) := by
  unfold getA at h
  split at h
  · rename_i d' e
    cases h
    obtain ⟨v, hv, q⟩ := G.val i _ e
    exact ⟨v, hv, .inl q⟩
  · rename_i d' e
    cases h
    obtain ⟨_, p, h1, h2, _, q⟩ := G.own i _ _ e
    exact ⟨_, h2, .inr ⟨p, rfl, q⟩⟩
  · rename_i d' e
    cases h
    obtain ⟨p, h1, h2, _, q⟩ := G.chg i _ e
    exact ⟨_, h2, .inr ⟨p, rfl, q⟩⟩
  · rename_i d' e
    cases h
    obtain ⟨p, h1, h2, q⟩ := G.prt i _ e
    exact ⟨_, h1, .inr ⟨p, rfl, q⟩⟩
  · cases h
theorem te_sidx {i : Nat} {x : Str} (hN : X.N[i]? = some x) (hv : Vis X.env.scope x) (hd : (x == ("__debug__" : Str)) = false) (hcd : (x == ("__classdict__" : Str)) = false) (hb : PE X b (TEv X.K A0 EA W kb fb)) (hs : PlainIx b) :
    PE X (.Subscript (.Name x p) b pos) (TEv X.K A0 EA W 0 fun r => (lift (getA r i) r).bind fun _ r0 => (fb r0).bind fun y r1 => (lift (getA r1 i) r1).bind fun z r2 => lift (idxD z y) r2) := by
  have hix : IxR X (fun x y H Q => rVal X.K 0 idxD x y H Q ∨ rIxL X.K x y H Q) := by
    intro value slice pins s σ H x y v u Q I rx ry h hs
    rcases h with h | h
    · exact ix_val value slice pins s σ H x y v u Q I rx ry h hs
    · exact ix_list value slice pins s σ H x y v u Q I rx ry h hs
  refine PE.imp (pe_ix hix (pe_var hN hv hd hcd) hb hs) fun σ H Q ⟨r, Fs, G, h⟩ => ?_
  obtain ⟨d0, hd0, h⟩ := (h.bind (R' := fun _ r0 _ => Pst X.K A0 EA W σ Fs H ((fb r0).bind fun y r1 => (lift (getA r1 i) r1).bind fun z r2 => lift (idxD z y) r2) fun d r' _ =>
    ∀ v H', Keep (inF Fs) H H' → Good X.K A0 σ H' r' Fs → ResOk X.K H H' (Sv A0 Fs) 0 v d → Q v H') fun _ _ _ h => h).lift
  obtain ⟨v, hσ, _⟩ := getA_at G hd0
  refine ⟨v, hσ, r, Fs, G, h.bind fun y r1 _ h1 => fun v1 H1 k1 G1 q1 => ?_⟩
  obtain ⟨d1, hd1, h2⟩ := (h1.bind (R' := fun z r2 _ => Pst X.K A0 EA W σ Fs H (lift (idxD z y) r2) fun d r' _ =>
    ∀ v H', Keep (inF Fs) H H' → Good X.K A0 σ H' r' Fs → ResOk X.K H H' (Sv A0 Fs) 0 v d → Q v H') fun _ _ _ h => h).lift
  obtain ⟨d2, hd2, h3⟩ := h2.lift
  obtain ⟨v', hσ', q⟩ := getA_at G1 hd1
  rw [hσ] at hσ'
  cases hσ'
  rcases q with q | ⟨p, rfl, xs, ds, rfl, e, rs⟩
  · exact .inl ⟨Sv A0 Fs, d1, y, d2, G1.alS, q, q1.1, hd2, fun v H3 k3 q3 => h3 v H3 (k1.trans (kf k3)) (G1.keep0 k3) (q3.back k1)⟩
  · cases y <;> simp only [idxD, reduceCtorEq] at hd2
    obtain ⟨j, e1, e2⟩ := atI_eq hd2
    obtain ⟨w, h5, h6⟩ := rs.get e2
    exact .inr ⟨p, xs, _, w, rfl, rep_int q1.1, .inl (.inl e), atI_of (by rw [rs.length]; exact e1) h5, h3 _ _ k1 G1 (ResOk.zero h6)⟩
theorem te_lrep {fs : Env → Out (List D)} (hes : PA X es (TAv X.K A0 EA W fs)) (hb : PE X b (TEv X.K A0 EA W kb fb)) :
    PE X (.BinOp (.List es p) .Mult b pos) (TEv X.K A0 EA W 1 fun r => (fs r).bind fun ds r1 => if ds.length ≤ LIM then (fb r1).bind fun y r2 => lift (repD ds y) r2 else .bad) := by
  refine PE.imp (pe_op op_rep (te_lst (A0 := A0) (EA := EA) (W := W) hes) hb) fun σ H Q ⟨r, Fs, G, h⟩ => ?_
  refine ⟨r, Fs, G, ?_⟩
  cases e : fs r with
  | exc x r' => simp only [e, Out.bind] at h ⊢; exact h
  | bad => simp only [e, Out.bind] at h; exact h.elim
  | ok ds r1 =>
    simp only [e, Out.bind] at h ⊢
    by_cases hl : ds.length ≤ LIM
    · rw [if_pos hl] at h ⊢
      intro v1 H1 k1 G1 q1
      obtain ⟨a, xs, rfl, ha, hxs, rs'⟩ := q1.2 rfl _ rfl
      have rs := rs'.mono fun a z => .inl (.inl z)
      refine ⟨r1, Fs, G1, (h.bind (R' := fun y r2 _ => ∃ d, repD ds y = some d ∧ ∀ v H', Keep (inF Fs) H H' → Good X.K A0 σ H' r2 Fs → ResOk X.K H H' (Sv A0 Fs) 1 v d → Q v H') fun y r2 _ h2 => h2.lift).later k1 fun y r2 ⟨d, hd, h3⟩ => fun v2 H2 k2 G2 q2 => ?_⟩
      cases y <;> simp only [repD, reduceCtorEq, Option.ite_none_right_eq_some, Option.some.injEq] at hd
      obtain ⟨⟨h1, h2, h4⟩, rfl⟩ := hd
      have na : ¬ inF Fs a := fun z => by
        obtain ⟨ys, e'⟩ := G.lstF z
        rw [ha] at e'; cases e'
      have e2 : H2 a = some (.lst xs) := k2.1 _ _ hxs na
      refine ⟨a, _, xs, rfl, rep_int q2.1, e2, h1, h2, by rw [rs.length, ← LIM_eq]; exact h4, fun q hq => ?_⟩
      exact h3 _ _ ((k1.trans k2).trans (Keep.new hq)) (G2.keep0 (Keep.new hq)) ((res_newL G2.alS hq ((rs.keep k2 sub_in).rep _)).back (k1.trans k2))
    · rw [if_neg hl] at h; exact h.elim
end
end Cw
end

section
namespace Cw
open PySem PySem.Spec PyProof.Rows L2

def ItIs (K : Fr) (S : Addr → Prop) (H1 : Hp) (J : It) (xs : List D) : Prop :=
  ∀ (i : Nat) (H : Hp) (S' : Addr → Prop), (∀ a, S' a → S a ∨ H1 a = none) → Keep S H1 H → (∀ a, S' a → H a ≠ none) →
    (i < xs.length → J.go i H ∧ ∀ x H', J.yld i H x H' → Keep (fun _ => False) H H' ∧ ∃ d, xs[i]? = some d ∧ Rep K H' S' x d) ∧ (xs.length ≤ i → J.stop i H)
section
variable {K : Fr} {S M S' : Addr → Prop} {H1 H : Hp}
theorem reps_later {vs : List V} {ds : List D} (r : Reps K H1 S vs ds) (hS : ∀ a, S' a → S a ∨ H1 a = none) (kp : Keep M H1 H) (hM : ∀ a, M a → S a) : Reps K H S' vs ds :=
  ((r.mono (S' := fun a => S a ∨ S' a) fun a h => h.elim .inl (hS a)).keep kp fun a h => .inl (hM a h)).mono fun a h => .inl (.inr h)
theorem rep_later {v : V} {d : D} (r : Rep K H1 S v d) (hS : ∀ a, S' a → S a ∨ H1 a = none) (kp : Keep M H1 H) (hM : ∀ a, M a → S a) : Rep K H S' v d :=
  ((r.mono (S' := fun a => S a ∨ S' a) fun a h => h.elim .inl (hS a)).keep kp fun a h => .inl (hM a h)).mono fun a h => .inl (.inr h)
theorem itis_list {a : Addr} {vs : List V} {ds : List D} (h : LstAt K H1 S a vs) (r : Reps K H1 S vs ds) : ItIs K S H1 (Itl K a) ds := fun i H S' hS kp al => by
  have hM : ∀ a, S a → S a := fun _ h => h
  have h' := h.keep kp hM
  have r' := reps_later r hS kp hM
  refine ⟨fun hi => ⟨⟨vs, vs[i]'(by rw [r.length]; exact hi), h'.sq, List.getElem?_eq_getElem _⟩, ?_⟩, fun hi => ⟨vs, h'.sq, by rw [r.length]; exact hi⟩⟩
  rintro x H' ⟨rfl, y⟩
  obtain ⟨d, hd, hr⟩ := r'.getV (y vs h'.sq)
  exact ⟨Keep.refl, d, hd, hr⟩
theorem itis_tup {a : Addr} {vs : List V} {ds : List D} (h : TupAt K H1 S a vs) (r : Reps K H1 S vs ds) : ItIs K S H1 (Itt K a) ds := fun i H S' hS kp al => by
  have hM : ∀ a, S a → S a := fun _ h => h
  have h' := h.keep kp hM
  have r' := reps_later r hS kp hM
  refine ⟨fun hi => ⟨⟨vs, vs[i]'(by rw [r.length]; exact hi), h'.sq, List.getElem?_eq_getElem _⟩, ?_⟩, fun hi => ⟨vs, h'.sq, by rw [r.length]; exact hi⟩⟩
  rintro x H' ⟨rfl, y⟩
  obtain ⟨d, hd, hr⟩ := r'.getV (y vs h'.sq)
  exact ⟨Keep.refl, d, hd, hr⟩
theorem rangeD_len (i j : Int) : (rangeD i j).length = (j - i).toNat := by simp [rangeD]
theorem rangeD_get {i j : Int} {n : Nat} (h : n < (j - i).toNat) : (rangeD i j)[n]? = some (.int (i + (n : Nat))) := by simp [rangeD, h]
theorem itis_rng {lo hi : Int} : ItIs K S H1 (Itr lo (hi - lo).toNat) (rangeD lo hi) := fun i H S' hS kp al => by
  have hM : ∀ a, S a → S a := fun _ h => h
  rw [rangeD_len]
  refine ⟨fun hi => ⟨hi, ?_⟩, fun hi => hi⟩
  rintro x H' ⟨rfl, rfl⟩
  exact ⟨Keep.refl, _, rangeD_get hi, .int _⟩
theorem itis_rngR {lo hi : Int} : ItIs K S H1 (Itc (lo + (((hi - lo).toNat : Nat) : Int) - 1) (-1) (hi - lo).toNat) (rangeD lo hi).reverse := fun i H S' hS kp al => by
  have hM : ∀ a, S a → S a := fun _ h => h
  rw [List.length_reverse, rangeD_len]
  refine ⟨fun hi => ⟨hi, ?_⟩, fun hi => hi⟩
  rintro x H' ⟨rfl, rfl⟩
  refine ⟨Keep.refl, _, ?_, .int _⟩
  rw [List.getElem?_reverse (by rw [rangeD_len]; exact hi), rangeD_len, rangeD_get (by omega)]
  congr 2
  omega
theorem itis_revL {a : Addr} {vs : List V} {ds : List D} (h : LstAt K H1 S a vs) (r : Reps K H1 S vs ds) : ItIs K S H1 (Itv K a vs.length) ds.reverse := fun i H S' hS kp al => by
  have hM : ∀ a, S a → S a := fun _ h => h
  have h' := h.keep kp hM
  have r' := reps_later r hS kp hM
  rw [List.length_reverse, ← r.length]
  refine ⟨fun hi => ⟨⟨hi, vs, vs[vs.length - 1 - i]'(by omega), h'.sq, List.getElem?_eq_getElem _⟩, ?_⟩, fun hi => hi⟩
  rintro x H' ⟨rfl, y⟩
  obtain ⟨d, hd, hr⟩ := r'.getV (y vs h'.sq)
  refine ⟨Keep.refl, d, ?_, hr⟩
  rw [List.getElem?_reverse (by rw [← r.length]; exact hi), ← r.length]
  exact hd
theorem itis_revT {a : Addr} {vs : List V} {ds : List D} (h : TupAt K H1 S a vs) (r : Reps K H1 S vs ds) : ItIs K S H1 (RT.ItvT K a vs.length) ds.reverse := fun i H S' hS kp al => by
  have hM : ∀ a, S a → S a := fun _ h => h
  have h' := h.keep kp hM
  have r' := reps_later r hS kp hM
  rw [List.length_reverse, ← r.length]
  refine ⟨fun hi => ⟨⟨hi, vs, vs[vs.length - 1 - i]'(by omega), h'.sq, List.getElem?_eq_getElem _⟩, ?_⟩, fun hi => hi⟩
  rintro x H' ⟨rfl, y⟩
  obtain ⟨d, hd, hr⟩ := r'.getV (y vs h'.sq)
  refine ⟨Keep.refl, d, ?_, hr⟩
  rw [List.getElem?_reverse (by rw [← r.length]; exact hi), ← r.length]
  exact hd
/-- a new pair -/
theorem rep_pair {T : Addr} {x y : V} {d e : D} (hT : H T = none) (al : ∀ a, S' a → H a ≠ none) (rx : Rep K H S' x d) (ry : Rep K H S' y e) : Rep K (upd H T (.tup [x, y])) S' (.ref T) (.tuple [d, e]) :=
  (res_newT (k := 0) al hT (.cons rx (.cons ry .nil))).1
theorem itis_enum {a : Addr} {vs : List V} {ds : List D} (h : LstAt K H1 S a vs) (r : Reps K H1 S vs ds) : ItIs K S H1 (Ite K a) ((List.range ds.length).map fun i => .tuple [.int (i : Nat), ds.getD i .none]) := fun i H S' hS kp al => by
  have hM : ∀ a, S a → S a := fun _ h => h
  have h' := h.keep kp hM
  have r' := reps_later r hS kp hM
  rw [List.length_map, List.length_range, ← r.length]
  refine ⟨fun hi => ⟨⟨vs, vs[i]'hi, h'.sq, List.getElem?_eq_getElem _⟩, ?_⟩, fun hi => ⟨vs, h'.sq, hi⟩⟩
  rintro x H' ⟨T, y, rfl, hT, rfl, hy⟩
  obtain ⟨d, hd, hr⟩ := r'.getV (hy vs h'.sq)
  refine ⟨Keep.new hT, _, ?_, rep_pair hT al (.int _) hr⟩
  rw [r.length] at hi
  have hd' := (List.getElem?_eq_some_iff.mp hd).2
  simp [r.length, hi, hd']
theorem itis_zipL {a b : Addr} {vs ws : List V} {ds es : List D} (h : LstAt K H1 S a vs) (r : Reps K H1 S vs ds) (g : LstAt K H1 S b ws) (q : Reps K H1 S ws es) : ItIs K S H1 (Itz K a b) ((ds.zip es).map fun p => .tuple [p.1, p.2]) := fun i H S' hS kp al => by
  have hM : ∀ a, S a → S a := fun _ h => h
  have h' := h.keep kp hM
  have r' := reps_later r hS kp hM
  have g' := g.keep kp hM
  have q' := reps_later q hS kp hM
  rw [List.length_map, List.length_zip, ← r.length, ← q.length]
  refine ⟨fun hi => ⟨⟨vs, ws, vs[i]'(by omega), ws[i]'(by omega), h'.sq, g'.sq, List.getElem?_eq_getElem _, List.getElem?_eq_getElem _⟩, ?_⟩, fun hi => ⟨vs, ws, h'.sq, g'.sq, by omega⟩⟩
  rintro x H' ⟨T, y, z, rfl, hT, rfl, hy, hz⟩
  obtain ⟨d, hd, hr⟩ := r'.getV (hy vs h'.sq)
  obtain ⟨e, he, hs⟩ := q'.getV (hz ws g'.sq)
  refine ⟨Keep.new hT, _, ?_, rep_pair hT al hr hs⟩
  simp [List.getElem?_map, List.getElem?_zip_eq_some, hd, he, List.zip, List.getElem?_zipWith]
theorem itis_zipT {a b : Addr} {vs ws : List V} {ds es : List D} (h : TupAt K H1 S a vs) (r : Reps K H1 S vs ds) (g : TupAt K H1 S b ws) (q : Reps K H1 S ws es) : ItIs K S H1 (RZ.ItzT K a b) ((ds.zip es).map fun p => .tuple [p.1, p.2]) := fun i H S' hS kp al => by
  have hM : ∀ a, S a → S a := fun _ h => h
  have h' := h.keep kp hM
  have r' := reps_later r hS kp hM
  have g' := g.keep kp hM
  have q' := reps_later q hS kp hM
  rw [List.length_map, List.length_zip, ← r.length, ← q.length]
  refine ⟨fun hi => ⟨⟨vs, ws, vs[i]'(by omega), ws[i]'(by omega), h'.sq, g'.sq, List.getElem?_eq_getElem _, List.getElem?_eq_getElem _⟩, ?_⟩, fun hi => ⟨vs, ws, h'.sq, g'.sq, by omega⟩⟩
  rintro x H' ⟨T, y, z, rfl, hT, rfl, hy, hz⟩
  obtain ⟨d, hd, hr⟩ := r'.getV (hy vs h'.sq)
  obtain ⟨e, he, hs⟩ := q'.getV (hz ws g'.sq)
  refine ⟨Keep.new hT, _, ?_, rep_pair hT al hr hs⟩
  simp [List.getElem?_map, List.getElem?_zip_eq_some, hd, he, List.zip, List.getElem?_zipWith]
end
def TIv (K : Fr) (A0 : Prot) (EA : EAt) (W : WX) (f : Env → Out (List D)) : TI := fun σ H R => ∃ r Fs, Good K A0 σ H r Fs ∧ Pst K A0 EA W σ Fs H (f r) fun xs r' _ =>
  ∀ J H', Keep (inF Fs) H H' → Good K A0 σ H' r' Fs → ItIs K (Sv A0 Fs) H' J xs → R J H'
/-- the same where nothing in the heap is walked -/
def TIr (K : Fr) (A0 : Prot) (EA : EAt) (W : WX) (f : Env → Out (List D)) : TI := fun σ H R => ∃ r Fs, Good K A0 σ H r Fs ∧ Pst K A0 EA W σ Fs H (f r) fun xs r' _ =>
  ∀ J H', Keep (inF Fs) H H' → Good K A0 σ H' r' Fs → (∀ S, ItIs K S H' J xs) → R J H'
theorem TIr.of {K : Fr} {A0 : Prot} {EA : EAt} {W : WX} {f : Env → Out (List D)} {σ : L2.St} {H : Hp} {R : It → Hp → Prop} (h : TIv K A0 EA W f σ H R) : TIr K A0 EA W f σ H R := by
  obtain ⟨r, Fs, G, h⟩ := h
  refine ⟨r, Fs, G, ?_⟩
  cases e : f r with
  | ok xs r' => rw [e] at h; exact fun J H' k g it => h J H' k g (it _)
  | exc x r' => rw [e] at h; exact h
  | bad => rw [e] at h; exact h
section
variable {X : Cx} {tg : Expr} {A0 : Prot} {EA : EAt} {W : WX} {k ka kb kc : Nat} {a b c e : Expr} {es : List Expr} {fa fb fc : Env → Out D} {fs : Env → Out (List D)} {pos p2 p : Pos}
theorem PI.imp {iter : Expr} {t t' : TI} (h : PI X tg iter t) (i : ∀ σ H Q, t' σ H Q → t σ H Q) : PI X tg iter t' := ⟨fun pins s σ H Q I q => h.run pins s σ H Q I (i σ H Q q)⟩
/-- a list or a tuple -/
def iSeq (K : Fr) (tl : TE) : TI := fun σ H R => tl σ H fun x H1 => ∃ a, x = .ref a ∧ (((∃ xs, SqL K H1 a xs) ∧ R (Itl K a) H1) ∨ ((∃ xs, SqT K H1 a xs) ∧ R (Itt K a) H1))
theorem pi_seq {l : Expr} {tl : TE} (hl : PE X l tl) : PI X tg l (iSeq X.K tl) := by
  refine ⟨fun pins s σ H R I h => ?_⟩
  refine thn (hl.run pins s σ H _ I h) fun v s1 ⟨x, H1, I1, r1, q1⟩ => ?_
  obtain ⟨a, e, q1⟩ := q1
  subst e
  cases r1
  rcases q1 with ⟨⟨xs, hq⟩, q⟩ | ⟨⟨xs, hq⟩, q⟩
  · obtain ⟨its, rv, p, hz⟩ := I1.list hq
    refine wpAny_pyIter_list p.isList ?_
    refine ⟨s1.heap.objs.size, [s1.heap.objs.size], _, _, H1, rfl, I1.kept (t' := s1.toks) fun b o e => Heap.get?_push_of_some _ e, turn_list a _, ⟨_, Heap.get?_push_size _ rfl, rfl, rfl⟩, fun b hb => ?_, q⟩
    have e : b = s1.heap.objs.size := by simpa using hb
    rw [e]
    exact I1.fpOk (Nat.le_refl _) (I1.hok.fresh (Nat.le_refl _))
  · obtain ⟨its, rv, p, hz⟩ := I1.tuple hq
    refine wpAny_pyIter_tuple (show s1.heap.IsTuple a its.toArray from p) ?_
    refine ⟨s1.heap.objs.size, [s1.heap.objs.size], _, _, H1, rfl, I1.kept (t' := s1.toks) fun b o e => Heap.get?_push_of_some _ e, turn_tuple a _, ⟨_, Heap.get?_push_size _ rfl, rfl, rfl⟩, fun b hb => ?_, q⟩
    have e : b = s1.heap.objs.size := by simpa using hb
    rw [e]
    exact I1.fpOk (Nat.le_refl _) (I1.hok.fresh (Nat.le_refl _))
theorem ti_seq (ha : PE X a (TEv X.K A0 EA W ka fa)) : PI X tg a (TIv X.K A0 EA W fun r => (fa r).bind fun x r1 => lift (itemsD x) r1) := by
  refine PI.imp (pi_seq ha) fun σ H R ⟨r, Fs, G, h⟩ => ⟨r, Fs, G, h.bind fun x r1 _ h1 => fun v1 H1 k1 G1 q1 => ?_⟩
  obtain ⟨xs, hx, h2⟩ := h1.lift
  cases x <;> simp only [itemsD, reduceCtorEq, Option.some.injEq] at hx
  · subst hx
    obtain ⟨p, vs, rfl, hp, rs⟩ := rep_lst q1.1
    exact ⟨p, rfl, .inl ⟨⟨vs, hp.sq⟩, h2 _ _ k1 G1 (itis_list hp rs)⟩⟩
  · subst hx
    obtain ⟨p, vs, rfl, hp, rs⟩ := rep_tup q1.1
    exact ⟨p, rfl, .inr ⟨⟨vs, hp.sq⟩, h2 _ _ k1 G1 (itis_tup hp rs)⟩⟩
theorem rng_eq {x y : D} {d : D} (h : rngD x y = some d) : ∃ i j, x = .int i ∧ y = .int j ∧ (-(2 ^ 62) ≤ i ∧ i < 2 ^ 62 ∧ -(2 ^ 62) ≤ j ∧ j < 2 ^ 62) ∧ d = .list (rangeD i j) := by
  cases x <;> cases y <;> simp only [rngD, reduceCtorEq, Option.ite_none_right_eq_some, Option.some.injEq] at h
  exact ⟨_, _, rfl, rfl, h.1, h.2.symm⟩
theorem ti_rngB (hg : Gl X "range") (hm : X.mg "range" = none) (ha : PE X a (TEv X.K A0 EA W ka fa)) (hb : PE X b (TEv X.K A0 EA W kb fb)) (hsa : notStar a = true) (hsb : notStar b = true) :
    PI X tg (.Call (.Name "range" p) [a, b] [] pos) (TIr X.K A0 EA W fun r => ((fa r).bind fun x r1 => (fb r1).bind fun y r2 => lift (rngD x y) r2).bind fun x r1 => lift (itemsD x) r1) := by
  refine PI.imp (pi_range2 hg hm (ta_cons ha (ta_cons hb ta_nil (star_cons hsb)) (star_cons hsa)) (by rw [star_cons hsa, star_cons hsb]; rfl) (by rw [star_cons hsb]; rfl)) fun σ H R ⟨r, Fs, G, h⟩ => ?_
  refine ⟨r, Fs, G, ?_⟩
  cases e1 : fa r with
  | exc x r' => simp only [e1, Out.bind] at h ⊢; exact h
  | bad => simp only [e1, Out.bind] at h; exact h.elim
  | ok x r1 =>
    simp only [e1, Out.bind] at h ⊢
    cases e2 : fb r1 with
    | exc x r' => simp only [e2] at h ⊢; exact h
    | bad => simp only [e2] at h; exact h.elim
    | ok y r2 =>
      simp only [e2] at h ⊢
      cases e3 : rngD x y with
      | none => rw [e3] at h; exact h.elim
      | some d =>
        rw [e3] at h
        obtain ⟨i, j, rfl, rfl, hb, rfl⟩ := rng_eq e3
        intro vs H1 k1 G1 q1
        obtain ⟨v, w, rfl, r1', r2'⟩ := reps2 q1
        exact ⟨i, j, by rw [rep_int r1', rep_int r2'], hb, h _ _ k1 G1 fun S => itis_rng⟩
theorem ti_rngA (hg : Gl X "range") (hm : X.mg "range" = none) (hb : PE X b (TEv X.K A0 EA W kb fb)) (hsb : notStar b = true) :
    PI X tg (.Call (.Name "range" p) [b] [] pos) (TIr X.K A0 EA W fun r => ((fb r).bind fun y r2 => lift (rngD (.int 0) y) r2).bind fun x r1 => lift (itemsD x) r1) := by
  refine PI.imp (pi_range1 hg hm (ta_cons hb ta_nil (star_cons hsb)) (by rw [star_cons hsb]; rfl)) fun σ H R ⟨r, Fs, G, h⟩ => ?_
  refine ⟨r, Fs, G, ?_⟩
  cases e2 : fb r with
  | exc x r' => simp only [e2, Out.bind] at h ⊢; exact h
  | bad => simp only [e2, Out.bind] at h; exact h.elim
  | ok y r2 =>
    simp only [e2, Out.bind] at h ⊢
    cases e3 : rngD (.int 0) y with
    | none => rw [e3] at h; exact h.elim
    | some d =>
      rw [e3] at h
      obtain ⟨i, j, e, rfl, hb, rfl⟩ := rng_eq e3
      cases e
      intro vs H1 k1 G1 q1
      obtain ⟨v, rfl, r1'⟩ := reps1 q1
      refine ⟨j, by rw [rep_int r1'], hb.2.2.1, hb.2.2.2, ?_⟩
      have z := fun S => itis_rng (K := X.K) (S := S) (H1 := H1) (lo := 0) (hi := j)
      rw [Int.sub_zero] at z
      exact h _ _ k1 G1 z
theorem ti_rng1 (hg : Gl X "range") (hm : X.mg "range" = none) (hb : PE X b (TEv X.K A0 EA W kb fb)) (hsb : notStar b = true) :
    PI X tg (.Call (.Name "range" p) [b] [] pos) (TIv X.K A0 EA W fun r => ((fb r).bind fun y r2 => lift (rngD (.int 0) y) r2).bind fun x r1 => lift (itemsD x) r1) := PI.imp (ti_rngA hg hm hb hsb) fun _ _ _ q => TIr.of q
theorem ti_rng2 (hg : Gl X "range") (hm : X.mg "range" = none) (ha : PE X a (TEv X.K A0 EA W ka fa)) (hb : PE X b (TEv X.K A0 EA W kb fb)) (hsa : notStar a = true) (hsb : notStar b = true) :
    PI X tg (.Call (.Name "range" p) [a, b] [] pos) (TIv X.K A0 EA W fun r => ((fa r).bind fun x r1 => (fb r1).bind fun y r2 => lift (rngD x y) r2).bind fun x r1 => lift (itemsD x) r1) := PI.imp (ti_rngB hg hm ha hb hsa hsb) fun _ _ _ q => TIr.of q
theorem ti_enum {elts : List Expr} {kk : Nat} {tpos : Pos} (hg : Gl X "enumerate") (hm : X.mg "enumerate" = none) (hb : PE X b (TEv X.K A0 EA W kb fb)) (hsb : notStar b = true) :
    PI X (.Tuple elts kk tpos) (.Call (.Name "enumerate" p) [b] [] pos) (TIv X.K A0 EA W fun r => ((fb r).bind fun y r2 => lift (enumD y) r2).bind fun x r1 => lift (itemsD x) r1) := by
  refine PI.imp (pi_enum hg hm (ta_cons hb ta_nil (star_cons hsb)) (by rw [star_cons hsb]; rfl)) fun σ H R ⟨r, Fs, G, h⟩ => ?_
  refine ⟨r, Fs, G, ?_⟩
  cases e2 : fb r with
  | exc x r' => simp only [e2, Out.bind] at h ⊢; exact h
  | bad => simp only [e2, Out.bind] at h; exact h.elim
  | ok y r2 =>
    simp only [e2, Out.bind] at h ⊢
    cases y <;> simp only [enumD] at h
    case list xs =>
      intro vs H1 k1 G1 q1
      obtain ⟨v, rfl, r1'⟩ := reps1 q1
      obtain ⟨a, ws, rfl, la, ra⟩ := rep_lst r1'
      exact ⟨a, ws, rfl, la.sq, h _ _ k1 G1 (itis_enum la ra)⟩
    all_goals exact h.elim
theorem ti_zip {elts : List Expr} {kk : Nat} {tpos : Pos} (hg : Gl X "zip") (hm : X.mg "zip" = none) (ha : PE X a (TEv X.K A0 EA W ka fa)) (hb : PE X b (TEv X.K A0 EA W kb fb)) (hsa : notStar a = true) (hsb : notStar b = true) :
    PI X (.Tuple elts kk tpos) (.Call (.Name "zip" p) [a, b] [] pos) (TIv X.K A0 EA W fun r => ((fa r).bind fun x r1 => (fb r1).bind fun y r2 => lift (zipD x y) r2).bind fun x r1 => lift (itemsD x) r1) := by
  refine PI.imp (RZ.pi_zipA hg hm (ta_cons ha (ta_cons hb ta_nil (star_cons hsb)) (star_cons hsa)) (star_cons hsa) (star_none (by simp [hsb]))) fun σ H R ⟨r, Fs, G, h⟩ => ?_
  refine ⟨r, Fs, G, ?_⟩
  cases e1 : fa r with
  | exc x r' => simp only [e1, Out.bind] at h ⊢; exact h
  | bad => simp only [e1, Out.bind] at h; exact h.elim
  | ok x r1 =>
    simp only [e1, Out.bind] at h ⊢
    cases e2 : fb r1 with
    | exc x r' => simp only [e2] at h ⊢; exact h
    | bad => simp only [e2] at h; exact h.elim
    | ok y r2 =>
      simp only [e2] at h ⊢
      intro vs H1 k1 G1 q1
      obtain ⟨v, w, rfl, r1', r2'⟩ := reps2 q1
      cases x <;> cases y <;> first | exact h.elim | skip
      · obtain ⟨a, ws, rfl, la, ra⟩ := rep_lst r1'
        obtain ⟨b, us, rfl, lb, rb⟩ := rep_lst r2'
        exact ⟨a, b, ws, us, rfl, .inl ⟨la.sq, lb.sq, h _ _ k1 G1 (itis_zipL la ra lb rb)⟩⟩
      · obtain ⟨a, ws, rfl, la, ra⟩ := rep_tup r1'
        obtain ⟨b, us, rfl, lb, rb⟩ := rep_tup r2'
        exact ⟨a, b, ws, us, rfl, .inr ⟨la.sq, lb.sq, h _ _ k1 G1 (itis_zipT la ra lb rb)⟩⟩
theorem ti_rev (hg : Gl X "reversed") (hm : X.mg "reversed" = none) (hb : PE X b (TEv X.K A0 EA W kb fb)) (hsb : notStar b = true) :
    PI X tg (.Call (.Name "reversed" p) [b] [] pos) (TIv X.K A0 EA W fun r => ((fb r).bind fun y r2 => lift (revD y) r2).bind fun x r1 => lift (itemsD x) r1) := by
  refine PI.imp (RT.pi_revA hg hm hb (star_cons hsb)) fun σ H R ⟨r, Fs, G, h⟩ => ?_
  refine ⟨r, Fs, G, ?_⟩
  cases e2 : fb r with
  | exc x r' => simp only [e2, Out.bind] at h ⊢; exact h
  | bad => simp only [e2, Out.bind] at h; exact h.elim
  | ok y r2 =>
    simp only [e2, Out.bind] at h ⊢
    intro v H1 k1 G1 q1
    cases y <;> first | exact h.elim | skip
    · obtain ⟨a, ws, rfl, la, ra⟩ := rep_lst q1.1
      exact ⟨a, ws, rfl, .inl ⟨la.sq, h _ _ k1 G1 (itis_revL la ra)⟩⟩
    · obtain ⟨a, ws, rfl, la, ra⟩ := rep_tup q1.1
      exact ⟨a, ws, rfl, .inr ⟨la.sq, h _ _ k1 G1 (itis_revT la ra)⟩⟩
end
end Cw
end

section
namespace Cw
open PySem PySem.Spec PyProof.Rows L2

section
variable {K : Fr} {A0 : Prot} {σ σ' : L2.St} {H H' : Hp} {r r' : Env} {Fs : List (Option Addr)} {M : Addr → Prop}
theorem inF_set {i : Nat} {a : Addr} (h : inF (Fs.set i none) a) : inF Fs a := by
  obtain ⟨j, hj⟩ := List.mem_iff_getElem?.mp h
  by_cases e : i = j
  · subst e
    by_cases hl : i < Fs.length
    · rw [List.getElem?_set_self hl] at hj; cases hj
    · rw [List.getElem?_eq_none (by simpa using hl)] at hj; cases hj
  · rw [List.getElem?_set_ne e] at hj
    exact List.mem_of_getElem? hj
theorem Sv_set {i : Nat} {a : Addr} (h : Sv A0 (Fs.set i none) a) : Sv A0 Fs a := h.elim .inl fun q => .inr (inF_set q)
theorem set_get {α : Type} {l : List α} {i j : Nat} {x y : α} (h : (l.set i x)[j]? = some y) : (i = j ∧ x = y) ∨ (i ≠ j ∧ l[j]? = some y) := by
  by_cases e : i = j
  · subst e
    by_cases hl : i < l.length
    · rw [List.getElem?_set_self hl] at h; cases h; exact .inl ⟨rfl, rfl⟩
    · rw [List.getElem?_eq_none (by simpa using hl)] at h; cases h
  · rw [List.getElem?_set_ne e] at h; exact .inr ⟨e, h⟩
theorem OwnL.mono {S S' : Addr → Prop} {a : Addr} {d : D} (h : OwnL K H S a d) (m : ∀ a, S' a → S a) : OwnL K H S' a d := by
  obtain ⟨xs, ds, e, h1, h2⟩ := h
  exact ⟨xs, ds, e, h1, h2.mono fun a q => .inl (m a q)⟩
/-- a value is stored -/
theorem Good.setV (G : Good K A0 σ H r Fs) {v : V} {d : D} (q : Rep K H (Sv A0 Fs) v d) (i : Nat) : Good K A0 (σ.set i (some v)) H (r.set i (.val d)) (Fs.set i none) where
  len := by simp [G.len]
  slen := by simp [G.slen]
  val := fun j e h => by
    rcases set_get h with ⟨rfl, hh⟩ | ⟨ne, h⟩
    · cases hh
      have hl : i < r.length := by
        by_cases hl : i < r.length
        · exact hl
        · rw [List.getElem?_eq_none (by simpa using hl)] at h; cases h
      exact ⟨v, List.getElem?_set_self (by rw [G.slen]; exact hl), q.mono fun a z => .inl (Sv_set z)⟩
    · obtain ⟨w, h1, h2⟩ := G.val j e h
      exact ⟨w, by rw [List.getElem?_set_ne ne]; exact h1, h2.mono fun a z => .inl (Sv_set z)⟩
  own := fun j k e h => by
    rcases set_get h with ⟨rfl, hh⟩ | ⟨ne, h⟩
    · cases hh
    · obtain ⟨e1, a, h1, h2, h3, h4⟩ := G.own j k e h
      exact ⟨e1, a, by rw [List.getElem?_set_ne ne]; exact h1, by rw [List.getElem?_set_ne ne]; exact h2, h3, h4.mono fun a z => Sv_set z⟩
  chg := fun j e h => by
    rcases set_get h with ⟨rfl, hh⟩ | ⟨ne, h⟩
    · cases hh
    · obtain ⟨a, h1, h2, h3, h4⟩ := G.chg j e h
      exact ⟨a, by rw [List.getElem?_set_ne ne]; exact h1, by rw [List.getElem?_set_ne ne]; exact h2, h3, h4.mono fun a z => Sv_set z⟩
  prt := fun j e h => by
    rcases set_get h with ⟨rfl, hh⟩ | ⟨ne, h⟩
    · cases hh
    · obtain ⟨a, h1, h2, h3⟩ := G.prt j e h
      exact ⟨a, by rw [List.getElem?_set_ne ne]; exact h1, h2, h3.mono fun a z => Sv_set z⟩
  pal := fun a h => ⟨fun z => (G.pal a h).1 (inF_set z), (G.pal a h).2⟩
  inj := fun j k a h1 h2 => by
    rcases set_get h1 with ⟨_, h⟩ | ⟨_, h1⟩
    · cases h
    · rcases set_get h2 with ⟨_, h⟩ | ⟨_, h2⟩
      · cases h
      · exact G.inj j k a h1 h2
  emp := fun j a h => by
    rcases set_get h with ⟨_, h⟩ | ⟨ne, h⟩
    · cases h
    · rw [List.getElem?_set_ne ne]
      exact G.emp j a h
  al := G.al
theorem Good.setN (G : Good K A0 σ H r Fs) (i : Nat) : Good K A0 (σ.set i none) H (r.set i .non) (Fs.set i none) where
  len := by simp [G.len]
  slen := by simp [G.slen]
  val := fun j e h => by
    rcases set_get h with ⟨rfl, hh⟩ | ⟨ne, h⟩
    · cases hh
    · obtain ⟨w, h1, h2⟩ := G.val j e h
      exact ⟨w, by rw [List.getElem?_set_ne ne]; exact h1, h2.mono fun a z => .inl (Sv_set z)⟩
  own := fun j k e h => by
    rcases set_get h with ⟨rfl, hh⟩ | ⟨ne, h⟩
    · cases hh
    · obtain ⟨e1, a, h1, h2, h3, h4⟩ := G.own j k e h
      exact ⟨e1, a, by rw [List.getElem?_set_ne ne]; exact h1, by rw [List.getElem?_set_ne ne]; exact h2, h3, h4.mono fun a z => Sv_set z⟩
  chg := fun j e h => by
    rcases set_get h with ⟨rfl, hh⟩ | ⟨ne, h⟩
    · cases hh
    · obtain ⟨a, h1, h2, h3, h4⟩ := G.chg j e h
      exact ⟨a, by rw [List.getElem?_set_ne ne]; exact h1, by rw [List.getElem?_set_ne ne]; exact h2, h3, h4.mono fun a z => Sv_set z⟩
  prt := fun j e h => by
    rcases set_get h with ⟨rfl, hh⟩ | ⟨ne, h⟩
    · cases hh
    · obtain ⟨a, h1, h2, h3⟩ := G.prt j e h
      exact ⟨a, by rw [List.getElem?_set_ne ne]; exact h1, h2, h3.mono fun a z => Sv_set z⟩
  pal := fun a h => ⟨fun z => (G.pal a h).1 (inF_set z), (G.pal a h).2⟩
  inj := fun j k a h1 h2 => by
    rcases set_get h1 with ⟨_, h⟩ | ⟨_, h1⟩
    · cases h
    · rcases set_get h2 with ⟨_, h⟩ | ⟨_, h2⟩
      · cases h
      · exact G.inj j k a h1 h2
  emp := fun j a h => by
    rcases set_get h with ⟨_, h⟩ | ⟨ne, h⟩
    · cases h
    · rw [List.getElem?_set_ne ne]
      exact G.emp j a h
  al := G.al
def clrF (Fs : List (Option Addr)) : List Nat → List (Option Addr)
  | [] => Fs
  | i :: is => clrF (Fs.set i none) is
theorem clrF_append : ∀ (is js : List Nat) (Fs : List (Option Addr)), clrF Fs (is ++ js) = clrF (clrF Fs is) js
  | [], _, _ => rfl
  | i :: is, js, Fs => clrF_append is js (Fs.set i none)
theorem inF_clr : ∀ {is : List Nat} {Fs : List (Option Addr)} {a : Addr}, inF (clrF Fs is) a → inF Fs a
  | [], _, _, h => h
  | i :: is, Fs, a, h => inF_set (inF_clr (is := is) h)
/-- slots without a list of their own -/
theorem set_same {i : Nat} (h : ∀ a, Fs[i]? ≠ some (some a)) : Fs.set i none = Fs := by
  apply List.ext_getElem?
  intro j
  by_cases e : i = j
  · subst e
    by_cases hl : i < Fs.length
    · rw [List.getElem?_set_self hl]
      cases q : Fs[i]? with
      | none => rw [List.getElem?_eq_none_iff] at q; omega
      | some o => cases o with
        | none => rfl
        | some a => exact absurd q (h a)
    · rw [List.getElem?_eq_none (by simpa using hl), List.getElem?_eq_none (by simpa using hl)]
  · rw [List.getElem?_set_ne e]
theorem clr_same : ∀ {is : List Nat}, (∀ i ∈ is, ∀ a, Fs[i]? ≠ some (some a)) → clrF Fs is = Fs
  | [], _ => rfl
  | i :: is, h => by
    show clrF (Fs.set i none) is = Fs
    rw [set_same (h i List.mem_cons_self)]
    exact clr_same fun j hj => h j (List.mem_cons_of_mem _ hj)
theorem okW_no {vs : List Nat} (G : Good K A0 σ H r Fs) (h : okW r vs = true) : ∀ i ∈ vs, ∀ a, Fs[i]? ≠ some (some a) := by
  intro i hi a e
  have h' := List.all_eq_true.mp h i hi
  rcases G.emp i a e with ⟨d, q⟩ | ⟨d, q⟩ <;> (rw [q] at h'; cases h')
theorem wipe_get {i : Nat} : ∀ {vs : List Nat} {l : L2.St}, (wipe l vs)[i]? = if i ∈ vs then (if i < l.length then some none else none) else l[i]?
  | [], l => by simp [wipe]
  | v :: vs, l => by
    unfold wipe
    by_cases e : v = i
    · subst e
      by_cases hl : v < l.length
      · rw [List.getElem?_set_self (by rw [wipe_length]; exact hl)]; simp [hl]
      · rw [List.getElem?_eq_none (by rw [List.length_set, wipe_length]; omega)]; simp [hl]
    · rw [List.getElem?_set_ne e, wipe_get]
      have : i ∈ v :: vs ↔ i ∈ vs := by simp [List.mem_cons, Ne.symm e]
      simp only [this]
theorem wipeE_length : ∀ {vs : List Nat} {l : Env}, (wipeE l vs).length = l.length
  | [], _ => rfl
  | v :: vs, l => by unfold wipeE; rw [List.length_set, wipeE_length]
theorem wipeE_get {i : Nat} : ∀ {vs : List Nat} {l : Env}, (wipeE l vs)[i]? = if i ∈ vs then (if i < l.length then some .non else none) else l[i]?
  | [], l => by simp [wipeE]
  | v :: vs, l => by
    unfold wipeE
    by_cases e : v = i
    · subst e
      by_cases hl : v < l.length
      · rw [List.getElem?_set_self (by rw [wipeE_length]; exact hl)]; simp [hl]
      · rw [List.getElem?_eq_none (by rw [List.length_set, wipeE_length]; omega)]; simp [hl]
    · rw [List.getElem?_set_ne e, wipeE_get]
      have : i ∈ v :: vs ↔ i ∈ vs := by simp [List.mem_cons, Ne.symm e]
      simp only [this]
theorem unwipeE_length {r0 : Env} : ∀ {vs : List Nat} {l : Env}, (unwipeE r0 l vs).length = l.length
  | [], _ => rfl
  | v :: vs, l => by unfold unwipeE; rw [List.length_set, unwipeE_length]
theorem unwipeE_get {r0 : Env} {i : Nat} : ∀ {vs : List Nat} {l : Env}, (unwipeE r0 l vs)[i]? = if i ∈ vs then (if i < l.length then some (r0.getD i .non) else none) else l[i]?
  | [], l => by simp [unwipeE]
  | v :: vs, l => by
    unfold unwipeE
    by_cases e : v = i
    · subst e
      by_cases hl : v < l.length
      · rw [List.getElem?_set_self (by rw [unwipeE_length]; exact hl)]; simp [hl]
      · rw [List.getElem?_eq_none (by rw [List.length_set, unwipeE_length]; omega)]; simp [hl]
    · rw [List.getElem?_set_ne e, unwipeE_get]
      have : i ∈ v :: vs ↔ i ∈ vs := by simp [List.mem_cons, Ne.symm e]
      simp only [this]
theorem wipe_eq {vs : List Nat} {l l' : L2.St} (hl : l.length = l'.length) (h : ∀ i, i ∉ vs → l[i]? = l'[i]?) : wipe l vs = wipe l' vs := by
  apply List.ext_getElem?
  intro i
  rw [wipe_get, wipe_get, hl]
  by_cases e : i ∈ vs
  · simp [e]
  · simp [e, h i e]
theorem wipe_wipe {vs ws : List Nat} {l : L2.St} (h : ∀ i ∈ ws, i ∈ vs) : wipe (wipe l ws) vs = wipe l vs :=
  wipe_eq (wipe_length _ _) fun i hi => wipe_out fun z => hi (h i z)
theorem Good.wipe (G : Good K A0 σ H r Fs) {vs : List Nat} (h : ∀ i ∈ vs, ∀ a, Fs[i]? ≠ some (some a)) : Good K A0 (wipe σ vs) H (wipeE r vs) Fs := by
  induction vs with
  | nil => exact G
  | cons v vs ih =>
    have g := (ih fun i hi => h i (List.mem_cons_of_mem _ hi)).setN v
    rw [set_same (h v List.mem_cons_self)] at g
    exact g
theorem Good.unwipe {r1 : Env} {vs : List Nat} {H1 : Hp} (G1 : Good K A0 σ H1 r1 Fs) (kp : Keep (inF Fs) H1 H) (ok : okW r1 vs = true) (G : Good K A0 (L2.wipe σ vs) H r Fs) : Good K A0 σ H (unwipeE r1 r vs) Fs where
  len := by rw [unwipeE_length, G.len]
  slen := by rw [unwipeE_length, ← G.slen, wipe_length]
  val := fun i d h => by
    rw [unwipeE_get] at h
    by_cases e : i ∈ vs
    · rw [if_pos e] at h
      split at h
      · cases q : r1[i]? with
        | none => simp [List.getD_eq_getElem?_getD, q] at h
        | some x =>
          simp only [List.getD_eq_getElem?_getD, q, Option.getD_some, Option.some.injEq] at h
          subst h
          obtain ⟨v, h1, h2⟩ := G1.val i d q
          exact ⟨v, h1, h2.keep kp sub_in⟩
      · cases h
    · rw [if_neg e] at h
      obtain ⟨v, h1, h2⟩ := G.val i d h
      exact ⟨v, by rw [wipe_out e] at h1; exact h1, h2⟩
  own := fun i k d h => by
    rw [unwipeE_get] at h
    by_cases e : i ∈ vs
    · rw [if_pos e] at h
      have ok' := List.all_eq_true.mp ok i e
      split at h
      · cases q : r1[i]? with
        | none => simp [List.getD_eq_getElem?_getD, q] at h
        | some x =>
          simp only [List.getD_eq_getElem?_getD, q, Option.getD_some, Option.some.injEq] at h
          subst h
          rw [q] at ok'; cases ok'
      · cases h
    · rw [if_neg e] at h
      obtain ⟨ek, a, h1, h2, h3, h4⟩ := G.own i k d h
      exact ⟨ek, a, h1, by rw [wipe_out e] at h2; exact h2, h3, h4⟩
  chg := fun i d h => by
    rw [unwipeE_get] at h
    by_cases e : i ∈ vs
    · rw [if_pos e] at h
      have ok' := List.all_eq_true.mp ok i e
      split at h
      · cases q : r1[i]? with
        | none => simp [List.getD_eq_getElem?_getD, q] at h
        | some x =>
          simp only [List.getD_eq_getElem?_getD, q, Option.getD_some, Option.some.injEq] at h
          subst h
          rw [q] at ok'; cases ok'
      · cases h
    · rw [if_neg e] at h
      obtain ⟨a, h1, h2, h3, h4⟩ := G.chg i d h
      exact ⟨a, h1, by rw [wipe_out e] at h2; exact h2, h3, h4⟩
  prt := fun i d h => by
    rw [unwipeE_get] at h
    by_cases e : i ∈ vs
    · rw [if_pos e] at h
      split at h
      · cases q : r1[i]? with
        | none => simp [List.getD_eq_getElem?_getD, q] at h
        | some x =>
          simp only [List.getD_eq_getElem?_getD, q, Option.getD_some, Option.some.injEq] at h
          subst h
          obtain ⟨a, h1, h2, h3⟩ := G1.prt i d q
          exact ⟨a, h1, h2, h3.keep kp sub_in (G1.pal a h2).1⟩
      · cases h
    · rw [if_neg e] at h
      obtain ⟨a, h2, h3, h4⟩ := G.prt i d h
      exact ⟨a, by rw [wipe_out e] at h2; exact h2, h3, h4⟩
  pal := G.pal
  inj := G.inj
  emp := fun i a h => by
    rw [unwipeE_get]
    have e : i ∉ vs := fun e => okW_no G1 ok i e a h
    rw [if_neg e]
    exact G.emp i a h
  al := G.al
/-- changed at M, which is none of ours -/
theorem Good.keepM (G : Good K A0 σ H r Fs) (k : Keep M H H') (hM : ∀ a, M a → A0 a) (hF : ∀ a, inF Fs a → ¬ M a) (hP : ∀ a, A0.p a → ¬ M a) : Good K A0 σ H' r Fs where
  len := G.len
  slen := G.slen
  val := fun i d e => let ⟨v, h, q⟩ := G.val i d e; ⟨v, h, q.keep k fun a z => .inl (hM a z)⟩
  own := fun i k' d e => let ⟨ek, a, h1, h2, h3, q⟩ := G.own i k' d e; ⟨ek, a, h1, h2, h3, q.keep k (fun a z => .inl (hM a z)) (hF a (List.mem_of_getElem? h1))⟩
  chg := fun i d e => let ⟨a, h1, h2, h3, q⟩ := G.chg i d e; ⟨a, h1, h2, h3, q.keep k (fun a z => .inl (hM a z)) (hF a (List.mem_of_getElem? h1))⟩
  prt := fun i d e => let ⟨a, h1, h2, q⟩ := G.prt i d e; ⟨a, h1, h2, q.keep k (fun a z => .inl (hM a z)) (hP a h2)⟩
  pal := fun a h => ⟨(G.pal a h).1, k.2 a (G.pal a h).2⟩
  inj := G.inj
  emp := G.emp
  al := fun a h => k.2 a (G.al a h)
/-- a new place is taken -/
theorem Good.addA (G : Good K A0 σ H r Fs) {p : Addr} {o : HO} (hp : H p = none) : Good K (A0.add p) σ (upd H p o) r Fs := by
  have mn : ∀ a, Sv (A0.add p) Fs a → Sv A0 Fs a ∨ H a = none := fun a h => by
    rcases h with (h | rfl) | h
    · exact .inl (.inl h)
    · exact .inr hp
    · exact .inl (.inr h)
  have kp : Keep (fun _ => False) H (upd H p o) := Keep.new hp
  have ow : ∀ {a d}, OwnL K H (Sv A0 Fs) a d → OwnL K (upd H p o) (Sv (A0.add p) Fs) a d := fun {a d} ⟨xs, ds, e, h1, h2⟩ =>
    ⟨xs, ds, e, kp.1 _ _ h1 fun z => z, (h2.mono mn).keep kp fun _ z => z.elim⟩
  refine ⟨G.len, G.slen, fun i d e => ?_, fun i k' d e => ?_, fun i d e => ?_, fun i d e => let ⟨a, h1, h2, q⟩ := G.prt i d e; ⟨a, h1, h2, ow q⟩, fun a h => ⟨(G.pal a h).1, kp.2 a (G.pal a h).2⟩, G.inj, G.emp, fun a h => ?_⟩
  · obtain ⟨v, h, q⟩ := G.val i d e
    exact ⟨v, h, (q.mono mn).keep kp fun _ z => z.elim⟩
  · obtain ⟨ek, a, h1, h2, h3, q⟩ := G.own i k' d e
    refine ⟨ek, a, h1, h2, fun z => ?_, ow q⟩
    rcases z with z | rfl
    · exact h3 z
    · obtain ⟨xs, e'⟩ := G.ownAt h1
      rw [hp] at e'; cases e'
  · obtain ⟨a, h1, h2, h3, q⟩ := G.chg i d e
    exact ⟨a, h1, h2, .inl h3, ow q⟩
  · rcases h with h | rfl
    · exact kp.2 a (G.al a h)
    · rw [upd_same]; exact fun z => nomatch z
theorem Good.dropA {p : Addr} (G : Good K (A0.add p) σ H r Fs) (hp : ∀ a, inF Fs a → a ≠ p) : Good K A0 σ H r Fs where
  len := G.len
  slen := G.slen
  val := fun i d e => let ⟨v, h, q⟩ := G.val i d e; ⟨v, h, q.mono fun a z => .inl (z.elim (fun z => .inl (.inl z)) .inr)⟩
  own := fun i k' d e => let ⟨ek, a, h1, h2, h3, q⟩ := G.own i k' d e; ⟨ek, a, h1, h2, fun z => h3 (.inl z), q.mono fun a z => z.elim (fun z => .inl (.inl z)) .inr⟩
  chg := fun i d e => let ⟨a, h1, h2, h3, q⟩ := G.chg i d e; ⟨a, h1, h2, h3.elim id fun e => absurd e (hp a (List.mem_of_getElem? h1)), q.mono fun a z => z.elim (fun z => .inl (.inl z)) .inr⟩
  prt := fun i d e => let ⟨a, h1, h2, q⟩ := G.prt i d e; ⟨a, h1, h2, q.mono fun a z => z.elim (fun z => .inl (.inl z)) .inr⟩
  pal := G.pal
  inj := G.inj
  emp := G.emp
  al := fun a h => G.al a (.inl h)
end
def TGv (K : Fr) (t : Tg) : TG := fun v σ H Q => ∃ A0 r Fs d r', Good K A0 σ H r Fs ∧ Rep K H (Sv A0 Fs) v d ∧ asgG t d r = some r' ∧
  ∀ σ', Good K A0 σ' H r' (clrF Fs (tgS t)) → (∀ i, i ∉ tgS t → σ'[i]? = σ[i]?) → σ'.length = σ.length → Q σ' H
def TGsv (K : Fr) (ts : List Tg) : TGs := fun vs σ H Q => ∃ A0 r Fs ds r', Good K A0 σ H r Fs ∧ Reps K H (Sv A0 Fs) vs ds ∧ asgTs ts ds r = some r' ∧
  ∀ σ', Good K A0 σ' H r' (clrF Fs (tgSs ts)) → (∀ i, i ∉ tgSs ts → σ'[i]? = σ[i]?) → σ'.length = σ.length → Q σ' H
theorem asg_cons {e : Expr} {es : List Expr} {env : PySem.Env} (h : notStar e = true) : (assignEach (e :: es) env) = (false, assign e env) :: assignEach es env := by
  cases e <;> first | rfl | (simp [notStar] at h)
section
variable {X : Cx} {pos : Pos}
/-- the names of a target -/
structure TgName (X : Cx) (i : Nat) (x : Str) : Prop where
  at_ : X.N[i]? = some x
  loc : Loc X.env.scope x
  fn : X.fn x = true ∨ X.env.scope.names.lookup x = some .local
mutual
/-- a target is t -/
def tgIs (ok : Nat → Str → Bool) : Tg → Expr → Bool
  | .nm i, e => match e with
    | .Name x _ => ok i x
    | _ => false
  | .tup ts, e => match e with
    | .Tuple es _ _ => tgsIs ok ts es
    | _ => false
def tgsIs (ok : Nat → Str → Bool) : List Tg → List Expr → Bool
  | [], es => match es with
    | [] => true
    | _ => false
  | t :: ts, es => match es with
    | e :: es => notStar e && tgIs ok t e && tgsIs ok ts es
    | [] => false
end
theorem tgs_ns {ok : Nat → Str → Bool} : ∀ {ts : List Tg} {es : List Expr} {env : PySem.Env}, tgsIs ok ts es = true → (assignEach es env).length = ts.length ∧ (assignEach es env).findIdx? (·.1) = none
  | [], [], _, _ => ⟨rfl, rfl⟩
  | t :: ts, e :: es, env, h => by
    simp only [tgsIs, Bool.and_eq_true] at h
    obtain ⟨h1, h2⟩ := tgs_ns (env := env) h.2
    rw [asg_cons h.1.1]
    exact ⟨by simp [h1], by simp [List.findIdx?_cons, h2]⟩
  | [], _ :: _, _, h => by simp [tgsIs] at h
  | _ :: _, [], _, h => by simp [tgsIs] at h
mutual
theorem pg_of {ok : Nat → Str → Bool} (hN : X.N.Nodup) (hc : X.calm = true) (hok : ∀ i x, ok i x = true → TgName X i x) : ∀ {t : Tg} {e : Expr}, tgIs ok t e = true → PG X e (TGv X.K t)
  | .nm i, e, h => by
    cases e <;> simp only [tgIs, Bool.false_eq_true] at h
    rename_i x p
    have n := hok i x h
    have g := pg_name (pos := p) hN n.at_ n.loc n.fn
    refine ⟨fun pins s σ H v u Q I r ⟨A0, r0, Fs, d, r', G, q, ha, hq⟩ => g.run pins s σ H v u Q I r ?_⟩
    simp only [asgG, Option.some.injEq] at ha
    subst ha
    exact hq _ (G.setV q i) (fun j hj => List.getElem?_set_ne (by simp [tgS] at hj; exact fun e => hj e.symm)) (by simp)
  | .tup ts, e, h => by
    cases e <;> simp only [tgIs, Bool.false_eq_true] at h
    rename_i es k p
    obtain ⟨h1, h2⟩ := tgs_ns (env := X.env) h
    have g := pg_tup (pos := p) (k := k) hc (pgs_of hN hc hok h) h1 h2
    refine ⟨fun pins s σ H v u Q I r ⟨A0, r0, Fs, d, r', G, q, ha, hq⟩ => g.run pins s σ H v u Q I r ?_⟩
    cases d <;> simp only [asgG, reduceCtorEq] at ha
    obtain ⟨a, xs, rfl, ta, rs⟩ := rep_tup q
    have hl : ∀ {ts : List Tg} {ds : List D} {r r' : Env}, asgTs ts ds r = some r' → ts.length = ds.length := by
      intro ts
      induction ts with
      | nil => intro ds r r' h; cases ds <;> simp [asgTs] at h ⊢
      | cons t ts ih =>
        intro ds r r' h
        cases ds with
        | nil => simp [asgTs] at h
        | cons d ds =>
          simp only [asgTs, Option.bind_eq_some_iff] at h
          obtain ⟨r2, _, h⟩ := h
          simp [ih h]
    exact ⟨a, xs, rfl, ta.sq, by rw [rs.length, hl ha], A0, r0, Fs, _, r', G, rs, ha, hq⟩
theorem pgs_of {ok : Nat → Str → Bool} (hN : X.N.Nodup) (hc : X.calm = true) (hok : ∀ i x, ok i x = true → TgName X i x) : ∀ {ts : List Tg} {es : List Expr}, tgsIs ok ts es = true → PGs X es (TGsv X.K ts)
  | [], [], h => by
    refine ⟨fun pins s σ H vs us Q I r ⟨A0, r0, Fs, ds, r', G, q, ha, hq⟩ => pgs_nil.run pins s σ H vs us Q I r ?_⟩
    cases ds <;> simp only [asgTs, reduceCtorEq, Option.some.injEq] at ha
    cases q
    subst ha
    exact ⟨rfl, hq σ G (fun _ _ => rfl) rfl⟩
  | t :: ts, e :: es, h => by
    simp only [tgsIs, Bool.and_eq_true] at h
    have g := pgs_cons (pg_of hN hc hok h.1.2) (pgs_of hN hc hok h.2) (by rw [asg_cons h.1.1]; rfl)
    refine ⟨fun pins s σ H vs us Q I r ⟨A0, r0, Fs, ds, r', G, q, ha, hq⟩ => g.run pins s σ H vs us Q I r ?_⟩
    cases ds <;> simp only [asgTs, reduceCtorEq, Option.bind_eq_some_iff] at ha
    obtain ⟨r2, ha1, ha2⟩ := ha
    cases q with
    | cons q1 q2 =>
      refine ⟨_, _, rfl, A0, r0, Fs, _, r2, G, q1, ha1, fun σ1 G1 e1 l1 => ?_⟩
      refine ⟨A0, r2, _, _, r', G1, q2.mono fun a z => .inl (z.elim .inl fun z => .inr (inF_clr z)), ha2, fun σ2 G2 e2 l2 => ?_⟩
      refine hq σ2 ?_ (fun i hi => ?_) (l2.trans l1)
      · simp only [tgSs]
        rw [clrF_append]
        exact G2
      · simp only [tgSs, List.mem_append, not_or] at hi
        rw [e2 i hi.2, e1 i hi.1]
  | [], _ :: _, h => by simp [tgsIs] at h
  | _ :: _, [], h => by simp [tgsIs] at h
end
end
end Cw
end

section
namespace Cw
open PySem PySem.Spec PyProof.Rows L2

def WNo : WX := fun _ _ _ _ => False
/-- readings for any place to be kept away from -/
def TEy (K : Fr) (EA : EAt) (k : Nat) (f : Env → Out D) : TE := fun σ H Q => ∃ A0, TEv K A0 EA WNo k f σ H Q
def TTy (K : Fr) (EA : EAt) (f : Env → Out Bool) : TT := fun σ H Q => ∃ A0, TTv K A0 EA WNo f σ H Q
def TIy (K : Fr) (EA : EAt) (f : Env → Out (List D)) : TI := fun σ H Q => ∃ A0, TIv K A0 EA WNo f σ H Q
theorem tey_of {Y : Cx} {K : Fr} {EA : EAt} {e : Expr} {k : Nat} {f : Env → Out D} (h : ∀ A0, PE Y e (TEv K A0 EA WNo k f)) : PE Y e (TEy K EA k f) :=
  ⟨fun pins s σ H Q I ⟨A0, q⟩ => (h A0).run pins s σ H Q I q⟩
theorem tiy_of {Y : Cx} {K : Fr} {EA : EAt} {tg e : Expr} {f : Env → Out (List D)} (h : ∀ A0, PI Y tg e (TIv K A0 EA WNo f)) : PI Y tg e (TIy K EA f) :=
  ⟨fun pins s σ H Q I ⟨A0, q⟩ => (h A0).run pins s σ H Q I q⟩
theorem tty_of {Y : Cx} {K : Fr} {EA : EAt} {e : Expr} {f : Env → Out Bool} (h : ∀ A0, PT Y e (TTv K A0 EA WNo f)) : PTs Y [e] (TTy K EA f) :=
  pts_one ⟨fun pins s σ H Q I ⟨A0, q⟩ => (h A0).run pins s σ H Q I q⟩
theorem tty_nil {Y : Cx} {K : Fr} {EA : EAt} : PTs Y [] (TTy K EA fun r => .ok true r) :=
  ⟨fun pins s σ H Q I ⟨A0, r, Fs, G, h⟩ => pts_nil.run pins s σ H Q I (h H Keep.refl G)⟩
def elt1 (t : Tg) (fc : Env → Out Bool) (fe : Env → Out D) (x : D) (rr : Env) : Out (Option D) := (match asgG t x rr with
        | none => .bad
        | some r2 => (fc r2).bind fun k r3 => if k then (fe r3).bind fun y r4 => .ok (some y) r4 else .ok none r3 : Out (Option D))
theorem Keep.putNew {M : Addr → Prop} {H0 H : Hp} {p : Addr} {o : HO} (k : Keep M H0 H) (h : H0 p = none) : Keep M H0 (upd H p o) :=
  ⟨fun a u e n => by rw [upd_ne (ne_of_none e h)]; exact k.1 a u e n, fun a e => by
    by_cases q : a = p
    · rw [q, upd_same]; exact fun z => nomatch z
    · rw [upd_ne q]; exact k.2 a e⟩
section
variable {K : Fr} {EA : EAt} {A0 : Prot} {σ : L2.St} {Fs : List (Option Addr)} {D : Addr} {H0 : Hp}
/-- the state of a comprehension's loop at H: its new list, what is collected -/
structure LcAt (K : Fr) (A0 : Prot) (σ : L2.St) (Fs : List (Option Addr)) (D : Addr) (H0 H : Hp) (rr : Env) (acc : List PyData) : Prop where
  good : Good K (A0.add D) σ H rr Fs
  kp : Keep (inF Fs) H0 H
  lst : ∃ va, H D = some (.lst va) ∧ Reps K H (Sv (A0.add D) Fs) va acc
  new : H0 D = none
  out : ∀ a, inF Fs a ∨ A0.p a → a ≠ D
theorem LcAt.keep {σ' : L2.St} {H H' : Hp} {rr rr' : Env} {acc : List PyData} (L : LcAt K A0 σ Fs D H0 H rr acc) (k : Keep (inF Fs) H H') (G : Good K (A0.add D) σ' H' rr' Fs) : LcAt K A0 σ' Fs D H0 H' rr' acc where
  good := G
  kp := L.kp.trans k
  lst := let ⟨va, h1, h2⟩ := L.lst; ⟨va, k.1 _ _ h1 fun z => L.out D (.inl z) rfl, h2.keep k sub_in⟩
  new := L.new
  out := L.out
theorem LcAt.push {H : Hp} {rr : Env} {acc : List PyData} {y : V} {d : PyData} (L : LcAt K A0 σ Fs D H0 H rr acc) (r : Rep K H (Sv (A0.add D) Fs) y d) :
    ∃ va, H D = some (.lst va) ∧ va.length = acc.length ∧ LcAt K A0 σ Fs D H0 (upd H D (.lst (va ++ [y]))) rr (acc ++ [d]) := by
  obtain ⟨va, h1, h2⟩ := L.lst
  have kp : Keep (fun a => a = D) H (upd H D (.lst (va ++ [y]))) := Keep.put rfl
  refine ⟨va, h1, h2.length, ?_⟩
  exact {
    good := L.good.keepM kp (fun a h => .inr h) (fun a h => L.out a (.inl h)) (fun a h => L.out a (.inr h))
    kp := L.kp.putNew L.new
    lst := ⟨_, upd_same, (h2.append (.cons r .nil)).keep kp fun a h => .inl (.inr h)⟩
    new := L.new
    out := L.out }
/-- one item -/
theorem lc_item {t : Tg} {fc : Env → Out Bool} {fe : Env → Out PyData} {ke : Nat} {vs : List Nat} {x : PyData} {v : V} {H : Hp} {rr r' : Env} {acc : List PyData} {o : Option PyData} {Nx : Hp → Prop}
    (ht : ∀ i ∈ tgS t, i ∈ vs) (hv : ∀ i ∈ vs, ∀ a, Fs[i]? ≠ some (some a))
    (L : LcAt K A0 (wipe σ vs) Fs D H0 H rr acc) (rx : Rep K H (Sv (A0.add D) Fs) v x) (he : elt1 t fc fe x rr = .ok o r') (hlen : o.isSome = true → acc.length < LIM)
    (hN : ∀ σ' H', wipe σ' vs = wipe σ vs → Keep (fun a => inF Fs a ∨ a = D) H H' → LcAt K A0 σ' Fs D H0 H' r' (acc ++ o.toList) → Nx H') :
    TGv K t v (wipe σ vs) H fun σ2 H2 => wipe σ2 vs = wipe σ vs ∧ TTy K EA fc σ2 H2 fun b H3 =>
      if b = true then TEy K EA ke fe σ2 H3 fun y H4 => ∃ acc, H4 D = some (.lst acc) ∧ acc.length < sizeLine ∧ Nx (upd H4 D (.lst (acc ++ [y]))) else Nx H3 := by
  unfold elt1 at he
  cases ha : asgG t x rr with
  | none => simp [ha] at he
  | some r2 =>
    simp only [ha] at he
    obtain ⟨k, r3, e3, he⟩ := bind_ok he
    refine ⟨_, rr, Fs, x, r2, L.good, rx, ha, fun σ2 G2 h2 l2 => ?_⟩
    rw [clr_same fun i hi => hv i (ht i hi)] at G2
    have hw : wipe σ2 vs = wipe σ vs := by
      rw [← wipe_wipe (l := σ) (vs := vs) (ws := vs) fun _ h => h]
      exact wipe_eq l2 fun i hi => h2 i fun z => hi (ht i z)
    refine ⟨hw, _, r2, Fs, G2, ?_⟩
    rw [e3]
    intro H3 k3 G3
    cases k with
    | false =>
      rw [if_neg Bool.false_ne_true] at he ⊢
      cases he
      exact hN σ2 H3 hw (k3.weak fun _ h => .inl h) (by simpa using L.keep k3 G3)
    | true =>
      rw [if_pos rfl] at he ⊢
      obtain ⟨y, r4, e4, he⟩ := bind_ok he
      cases he
      refine ⟨_, r3, Fs, G3, ?_⟩
      rw [e4]
      intro yv H4 k4 G4 q4
      have L4 := L.keep (k3.trans k4) G4
      obtain ⟨va, h1, h5, L5⟩ := L4.push q4.1
      exact ⟨va, h1, by rw [h5, ← LIM_eq]; exact hlen rfl, hN σ2 _ hw (((k3.trans k4).weak fun _ h => .inl h).trans (Keep.put (.inr rfl))) L5⟩
/-- the measure of a comprehension's loop -/
theorem Good.shape {H : Hp} {r : Env} (G : Good K A0 σ H r Fs) : True := trivial
end
section
variable {X : Cx} {tg : Expr} {A0 : Prot} {EA : EAt} {W : WX} {k ka kb kc : Nat} {pos p2 p : Pos}
/-- a comprehension over one source -/
def compF (t : Tg) (fi : Env → Out (List D)) (fc : Env → Out Bool) (fe : Env → Out D) : Env → Out D := fun r => (fi r).bind fun xs r1 =>
      if okW r1 (tgS t) then (loopC (fun x rr => (elt1 t fc fe x rr).wiped (tgS t)) xs [] (wipeE r1 (tgS t))).noX.bind fun ys r' =>
          .ok (.list ys) (unwipeE r1 r' (tgS t)) else .bad
theorem noX_ok {α : Type} {o : Out α} {a : α} {r : Env} (h : o.noX = .ok a r) : o = .ok a r := by
  cases o <;> simp_all [Out.noX]
theorem wiped_ok {α : Type} {o : Out α} {vs : List Nat} {a : α} {r : Env} (h : o.wiped vs = .ok a r) : ∃ r0, o = .ok a r0 ∧ r = wipeE r0 vs := by
  obtain ⟨a', r1, e, h⟩ := bind_ok h
  cases h
  exact ⟨r1, e, rfl⟩
theorem tv_comp {t : Tg} {fi : Env → Out (List D)} {fc : Env → Out Bool} {fe : Env → Out D} {ke : Nat} {σ : L2.St} {H : Hp} {Q : VK} (h : TEv X.K A0 EA W 1 (compF t fi fc fe) σ H Q) :
    tLc (TIv X.K A0 EA W fi) (TGv X.K t) (TTy X.K EA fc) (TEy X.K EA ke fe) (tgS t) σ H Q := by
  obtain ⟨r, Fs, G, h⟩ := h
  refine ⟨r, Fs, G, h.bind fun xs r1 _ h1 => fun J H1 k1 G1 it => fun D hD => ?_⟩
  by_cases hw : okW r1 (tgS t) = true
  case neg => rw [if_neg hw] at h1; exact h1.elim
  rw [if_pos hw] at h1
  have hv := okW_no G1 hw
  cases hl : loopC (fun x rr => (elt1 t fc fe x rr).wiped (tgS t)) xs [] (wipeE r1 (tgS t)) with
  | exc x r' => simp only [hl, Out.noX, Out.bind] at h1; exact h1.elim
  | bad => simp only [hl, Out.noX, Out.bind] at h1; exact h1.elim
  | ok ys r' =>
    simp only [hl, Out.noX, Out.bind] at h1
    have hout : ∀ a, inF Fs a ∨ A0.p a → a ≠ D := fun a ha e => by
      subst e
      rcases ha with ha | ha
      · obtain ⟨zs, e'⟩ := G1.lstF ha
        rw [hD] at e'; cases e'
      · exact (G1.pal a ha).2 hD
    have L0 : LcAt X.K A0 (wipe σ (tgS t)) Fs D H1 (upd H1 D (.lst [])) (wipeE r1 (tgS t)) [] := {
      good := (G1.addA hD).wipe hv
      kp := Keep.new hD
      lst := ⟨[], upd_same, .nil⟩
      new := hD
      out := hout }
    refine ⟨fun i m H => m = xs.length - i ∧ i ≤ xs.length ∧ ∃ acc rr, loopC (fun x rr => (elt1 t fc fe x rr).wiped (tgS t)) (xs.drop i) acc rr = .ok ys r' ∧ LcAt X.K A0 (wipe σ (tgS t)) Fs D H1 H rr acc,
      ⟨_, rfl, Nat.zero_le _, [], _, hl, L0⟩, ?_⟩
    rintro i m H5 ⟨rfl, hi, acc, rr, hloop, L⟩
    have hS : ∀ a, Sv (A0.add D) Fs a → Sv A0 Fs a ∨ H1 a = none := fun a h => by
      rcases h with (h | rfl) | h
      · exact .inl (.inl h)
      · exact .inr hD
      · exact .inl (.inr h)
    obtain ⟨hgo, hstop⟩ := it i H5 _ hS (L.kp.weak sub_in) L.good.alS
    by_cases hlt : i < xs.length
    · right
      obtain ⟨go, yl⟩ := hgo hlt
      refine ⟨go, fun H => ∃ acc rr, loopC (fun x rr => (elt1 t fc fe x rr).wiped (tgS t)) (xs.drop (i + 1)) acc rr = .ok ys r' ∧ LcAt X.K A0 (wipe σ (tgS t)) Fs D H1 H rr acc, fun H' ⟨acc, rr, h1, h2⟩ => ⟨_, by omega, rfl, hlt, acc, rr, h1, h2⟩, fun x H' hy => ?_⟩
      obtain ⟨kp, d, hd, rd⟩ := yl x H' hy
      have hdr : xs.drop i = d :: xs.drop (i + 1) := by
        rw [List.drop_eq_getElem_cons hlt]
        congr 1
        exact (List.getElem?_eq_some_iff.mp hd).2
      rw [hdr] at hloop
      simp only [loopC] at hloop
      obtain ⟨o, r5, e5, hloop⟩ := bind_ok hloop
      obtain ⟨r6, e6, rfl⟩ := wiped_ok e5
      refine lc_item (fun i hi => hi) hv (L.keep (kf kp) (L.good.keep0 kp)) rd e6 (fun hs => ?_) fun σ' H6 hw' _ L6 => ?_
      · cases o with
        | none => cases hs
        | some y =>
          simp only at hloop
          split at hloop
          · assumption
          · cases hloop
      · have L7 : LcAt X.K A0 (wipe σ (tgS t)) Fs D H1 H6 (wipeE r6 (tgS t)) (acc ++ o.toList) := by
          rw [← hw']
          exact { good := L6.good.wipe hv, kp := L6.kp, lst := L6.lst, new := L6.new, out := L6.out }
        cases o with
        | none => exact ⟨_, _, hloop, by simpa using L7⟩
        | some y =>
          simp only at hloop
          split at hloop
          · exact ⟨_, _, hloop, L7⟩
          · cases hloop
    · left
      have e : i = xs.length := by omega
      subst e
      rw [List.drop_length] at hloop
      simp only [loopC] at hloop
      cases hloop
      refine ⟨hstop (Nat.le_refl _), ?_⟩
      have G5 : Good X.K A0 (wipe σ (tgS t)) H5 r' Fs := L.good.dropA fun a h => hout a (.inl h)
      have Gf := Good.unwipe G1 L.kp hw G5
      obtain ⟨va, e1, e2⟩ := L.lst
      have nS : ¬ Sv A0 Fs D := fun z => G1.alS D z hD
      have e2' : Reps X.K H5 (Sv A0 Fs) va ys := e2.mono fun a h => .inl (h.elim (fun z => .inl (.inl z)) .inr)
      refine h1 (.ref D) H5 (k1.trans L.kp) Gf ⟨.lst (.inl ⟨.inl e1, nS⟩) e2', fun _ ds e => ?_⟩
      cases e
      refine ⟨D, va, rfl, ?_, e1, e2.mono fun a h => .inl (h.elim (fun z => z.elim (fun z => .inl (.inl z)) .inr) fun e => .inl (.inr e))⟩
      cases q : H D with
      | none => rfl
      | some o => exact absurd hD (k1.2 D (by rw [q]; exact fun z => nomatch z))
def compF2 (t : Tg) (fi : Env → Out (List D)) (fc : Env → Out Bool) (t1 : Tg) (fi1 : Env → Out (List D)) (fc1 : Env → Out Bool) (fe : Env → Out D) : Env → Out D := fun r => (fi r).bind fun xs r1 =>
      if okW r1 (tgS t ++ tgS t1) then (loopC2 (fun x acc rr => (match asgG t x rr with
        | none => .bad
        | some r2 => (fc r2).bind fun k r3 => if k then (fi1 r3).bind fun zs r4 =>
            loopC (fun w rq => (elt1 t1 fc1 fe w rq).wiped (tgS t1)) zs acc (wipeE r4 (tgS t1))
          else .ok acc r3 : Out (List D)).wiped (tgS t ++ tgS t1)) xs [] (wipeE r1 (tgS t ++ tgS t1))).noX.bind fun ys r' =>
          .ok (.list ys) (unwipeE r1 r' (tgS t ++ tgS t1)) else .bad
theorem tv_comp2 {t t1 : Tg} {fi fi1 : Env → Out (List D)} {fc fc1 : Env → Out Bool} {fe : Env → Out D} {ke : Nat} {σ : L2.St} {H : Hp} {Q : VK} (h : TEv X.K A0 EA W 1 (compF2 t fi fc t1 fi1 fc1 fe) σ H Q) :
    tLc2 (TIv X.K A0 EA W fi) (TGv X.K t) (TTy X.K EA fc) (TIy X.K EA fi1) (TGv X.K t1) (TTy X.K EA fc1) (TEy X.K EA ke fe) (tgS t ++ tgS t1) (tgS t1) σ H Q := by
  obtain ⟨r, Fs, G, h⟩ := h
  refine ⟨r, Fs, G, h.bind fun xs r1 _ h1 => fun J H1 k1 G1 it => fun D hD => ?_⟩
  generalize hvs : tgS t ++ tgS t1 = vs at h1 ⊢
  have m0 : ∀ i ∈ tgS t, i ∈ vs := fun i hi => by rw [← hvs]; exact List.mem_append_left _ hi
  have m1 : ∀ i ∈ tgS t1, i ∈ vs := fun i hi => by rw [← hvs]; exact List.mem_append_right _ hi
  by_cases hw : okW r1 vs = true
  case neg => rw [if_neg hw] at h1; exact h1.elim
  rw [if_pos hw] at h1
  have hv := okW_no G1 hw
  generalize hf : (fun x acc rr => (match asgG t x rr with
        | none => .bad
        | some r2 => (fc r2).bind fun k r3 => if k then (fi1 r3).bind fun zs r4 =>
            loopC (fun w rq => (elt1 t1 fc1 fe w rq).wiped (tgS t1)) zs acc (wipeE r4 (tgS t1))
          else .ok acc r3 : Out (List PyData)).wiped vs) = f at h1
  cases hl : loopC2 f xs [] (wipeE r1 vs) with
  | exc x r' => simp only [hl, Out.noX, Out.bind] at h1; exact h1.elim
  | bad => simp only [hl, Out.noX, Out.bind] at h1; exact h1.elim
  | ok ys r' =>
    simp only [hl, Out.noX, Out.bind] at h1
    have hout : ∀ a, inF Fs a ∨ A0.p a → a ≠ D := fun a ha e => by
      subst e
      rcases ha with ha | ha
      · obtain ⟨zs, e'⟩ := G1.lstF ha
        rw [hD] at e'; cases e'
      · exact (G1.pal a ha).2 hD
    have L0 : LcAt X.K A0 (wipe σ vs) Fs D H1 (upd H1 D (.lst [])) (wipeE r1 vs) [] := {
      good := (G1.addA hD).wipe hv
      kp := Keep.new hD
      lst := ⟨[], upd_same, .nil⟩
      new := hD
      out := hout }
    refine ⟨fun i m H => m = xs.length - i ∧ i ≤ xs.length ∧ ∃ acc rr, loopC2 f (xs.drop i) acc rr = .ok ys r' ∧ LcAt X.K A0 (wipe σ vs) Fs D H1 H rr acc,
      ⟨_, rfl, Nat.zero_le _, [], _, hl, L0⟩, ?_⟩
    rintro i m H5 ⟨rfl, hi, acc, rr, hloop, L⟩
    have hS : ∀ a, Sv (A0.add D) Fs a → Sv A0 Fs a ∨ H1 a = none := fun a h => by
      rcases h with (h | rfl) | h
      · exact .inl (.inl h)
      · exact .inr hD
      · exact .inl (.inr h)
    obtain ⟨hgo, hstop⟩ := it i H5 _ hS (L.kp.weak sub_in) L.good.alS
    by_cases hlt : i < xs.length
    · right
      obtain ⟨go, yl⟩ := hgo hlt
      refine ⟨go, fun H => ∃ acc rr, loopC2 f (xs.drop (i + 1)) acc rr = .ok ys r' ∧ LcAt X.K A0 (wipe σ vs) Fs D H1 H rr acc, fun H' ⟨acc, rr, h1, h2⟩ => ⟨_, by omega, rfl, hlt, acc, rr, h1, h2⟩, fun x H' hy => ?_⟩
      obtain ⟨kp, d, hd, rd⟩ := yl x H' hy
      have hdr : xs.drop i = d :: xs.drop (i + 1) := by
        rw [List.drop_eq_getElem_cons hlt]
        congr 1
        exact (List.getElem?_eq_some_iff.mp hd).2
      rw [hdr] at hloop
      simp only [loopC2] at hloop
      obtain ⟨acc2, r5, e5, hloop⟩ := bind_ok hloop
      rw [← hf] at e5
      obtain ⟨r6, e6, rfl⟩ := wiped_ok e5
      have L5 := L.keep (kf kp) (L.good.keep0 kp)
      cases ha : asgG t d rr with
      | none => simp [ha] at e6
      | some r2 =>
        simp only [ha] at e6
        obtain ⟨kk, r3, e3, e6⟩ := bind_ok e6
        refine ⟨_, rr, Fs, d, r2, L5.good, rd, ha, fun σ2 G2 h2 l2 => ?_⟩
        rw [clr_same fun i hi => hv i (m0 i hi)] at G2
        have hw2 : wipe σ2 vs = wipe σ vs := by
          rw [← wipe_wipe (l := σ) (vs := vs) (ws := vs) fun _ h => h]
          exact wipe_eq l2 fun i hi => h2 i fun z => hi (m0 i z)
        refine ⟨hw2, _, r2, Fs, G2, ?_⟩
        rw [e3]
        intro H6 k6 G6
        have L6 := L5.keep k6 G6
        -- the outer turn's end
        have fin : ∀ σ' H', wipe σ' vs = wipe σ vs → LcAt X.K A0 σ' Fs D H1 H' r6 acc2 → ∃ acc rr, loopC2 f (xs.drop (i + 1)) acc rr = .ok ys r' ∧ LcAt X.K A0 (wipe σ vs) Fs D H1 H' rr acc := fun σ' H' hw' L' => by
          refine ⟨_, _, hloop, ?_⟩
          rw [← hw']
          exact { good := L'.good.wipe hv, kp := L'.kp, lst := L'.lst, new := L'.new, out := L'.out }
        cases kk with
        | false =>
          rw [if_neg Bool.false_ne_true] at e6 ⊢
          cases e6
          exact fin σ2 H6 hw2 L6
        | true =>
          rw [if_pos rfl] at e6 ⊢
          obtain ⟨zs, r4, e4, e6⟩ := bind_ok e6
          refine ⟨_, r3, Fs, L6.good, ?_⟩
          rw [e4]
          intro J1 H7 k7 G7 it1
          have L7 := L6.keep k7 G7
          have hv1 : ∀ i ∈ tgS t1, ∀ a, Fs[i]? ≠ some (some a) := fun i hi => hv i (m1 i hi)
          have L7' : LcAt X.K A0 (wipe σ2 (tgS t1)) Fs D H1 H7 (wipeE r4 (tgS t1)) acc := { good := L7.good.wipe hv1, kp := L7.kp, lst := L7.lst, new := L7.new, out := L7.out }
          refine ⟨fun j m H => m = zs.length - j ∧ j ≤ zs.length ∧ Keep (fun a => inF Fs a ∨ a = D) H7 H ∧ ∃ acc rr, loopC (fun w rq => (elt1 t1 fc1 fe w rq).wiped (tgS t1)) (zs.drop j) acc rr = .ok acc2 r6 ∧ LcAt X.K A0 (wipe σ2 (tgS t1)) Fs D H1 H rr acc,
            ⟨_, rfl, Nat.zero_le _, Keep.refl, _, _, e6, L7'⟩, ?_⟩
          rintro j m H8 ⟨rfl, hj, k8, acc8, rr8, hloop8, L8⟩
          obtain ⟨hgo1, hstop1⟩ := it1 j H8 _ (fun a h => .inl h) (k8.weak fun a h => h.elim .inr fun e => .inl (.inr e)) L8.good.alS
          by_cases hlt1 : j < zs.length
          · right
            obtain ⟨go1, yl1⟩ := hgo1 hlt1
            refine ⟨go1, fun H => Keep (fun a => inF Fs a ∨ a = D) H7 H ∧ ∃ acc rr, loopC (fun w rq => (elt1 t1 fc1 fe w rq).wiped (tgS t1)) (zs.drop (j + 1)) acc rr = .ok acc2 r6 ∧ LcAt X.K A0 (wipe σ2 (tgS t1)) Fs D H1 H rr acc, fun H' ⟨k9, acc, rr, h1, h2⟩ => ⟨_, by omega, rfl, hlt1, k9, acc, rr, h1, h2⟩, fun x1 H9 hy1 => ?_⟩
            obtain ⟨kp1, d1, hd1, rd1⟩ := yl1 x1 H9 hy1
            have hdr1 : zs.drop j = d1 :: zs.drop (j + 1) := by
              rw [List.drop_eq_getElem_cons hlt1]
              congr 1
              exact (List.getElem?_eq_some_iff.mp hd1).2
            rw [hdr1] at hloop8
            simp only [loopC] at hloop8
            obtain ⟨o, r10, e10, hloop8⟩ := bind_ok hloop8
            obtain ⟨r11, e11, rfl⟩ := wiped_ok e10
            have L9 := L8.keep (kf kp1) (L8.good.keep0 kp1)
            have k79 : Keep (fun a => inF Fs a ∨ a = D) H7 H9 := k8.trans (kf kp1)
            refine lc_item (H0 := H1) (fun i hi => hi) hv1 L9 rd1 e11 (fun hs => ?_) fun σ' H10 hw' k10 L10 => ?_
            · cases o with
              | none => cases hs
              | some y =>
                simp only at hloop8
                split at hloop8
                · assumption
                · cases hloop8
            · have L11 : LcAt X.K A0 (wipe σ2 (tgS t1)) Fs D H1 H10 (wipeE r11 (tgS t1)) (acc8 ++ o.toList) := by
                rw [← hw']
                exact { good := L10.good.wipe hv1, kp := L10.kp, lst := L10.lst, new := L10.new, out := L10.out }
              refine ⟨k79.trans k10, ?_⟩
              cases o with
              | none => exact ⟨_, _, hloop8, by simpa using L11⟩
              | some y =>
                simp only at hloop8
                split at hloop8
                · exact ⟨_, _, hloop8, L11⟩
                · cases hloop8
          · left
            have e : j = zs.length := by omega
            subst e
            rw [List.drop_length] at hloop8
            simp only [loopC] at hloop8
            cases hloop8
            refine ⟨hstop1 (Nat.le_refl _), fin (wipe σ2 (tgS t1)) H8 ?_ L8⟩
            rw [← hw2]
            exact wipe_wipe m1
    · left
      have e : i = xs.length := by omega
      subst e
      rw [List.drop_length] at hloop
      simp only [loopC2] at hloop
      cases hloop
      refine ⟨hstop (Nat.le_refl _), ?_⟩
      have G5 : Good X.K A0 (wipe σ vs) H5 r' Fs := L.good.dropA fun a h => hout a (.inl h)
      have Gf := Good.unwipe G1 L.kp hw G5
      obtain ⟨va, e1, e2⟩ := L.lst
      have nS : ¬ Sv A0 Fs D := fun z => G1.alS D z hD
      have e2' : Reps X.K H5 (Sv A0 Fs) va ys := e2.mono fun a h => .inl (h.elim (fun z => .inl (.inl z)) .inr)
      refine h1 (.ref D) H5 (k1.trans L.kp) Gf ⟨.lst (.inl ⟨.inl e1, nS⟩) e2', fun _ ds e => ?_⟩
      cases e
      refine ⟨D, va, rfl, ?_, e1, e2.mono fun a h => .inl (h.elim (fun z => z.elim (fun z => .inl (.inl z)) .inr) fun e => .inl (.inr e))⟩
      cases q : H D with
      | none => rfl
      | some o => exact absurd hD (k1.2 D (by rw [q]; exact fun z => nomatch z))
end
end Cw
end

section
namespace Cw
open PySem PySem.Spec PyProof.Rows L2

theorem nodup_inj {α : Type} {a : α} : ∀ {l : List α} {i j : Nat}, l.Nodup → l[i]? = some a → l[j]? = some a → i = j
  | [], _, _, _, h, _ => by simp at h
  | b :: l, 0, 0, _, _, _ => rfl
  | b :: l, 0, j + 1, hn, h1, h2 => by
    simp only [List.getElem?_cons_zero, Option.some.injEq, List.getElem?_cons_succ] at h1 h2
    subst h1
    exact absurd (List.mem_of_getElem? h2) (List.nodup_cons.mp hn).1
  | b :: l, i + 1, 0, hn, h1, h2 => by
    simp only [List.getElem?_cons_zero, Option.some.injEq, List.getElem?_cons_succ] at h1 h2
    subst h2
    exact absurd (List.mem_of_getElem? h1) (List.nodup_cons.mp hn).1
  | b :: l, i + 1, j + 1, hn, h1, h2 => by
    have e := nodup_inj (l := l) (i := i) (j := j) (List.nodup_cons.mp hn).2 (by simpa using h1) (by simpa using h2)
    rw [e]
def addrOf : Option V → Option Addr
  | some (.ref a) => some a
  | _ => none
/-- the callee's own places: the lists that it is handed to change -/
def fsOf (fn : Fn) (vs : List V) : List (Option Addr) := (List.range fn.ns).map fun i => if fn.io.contains i then addrOf vs[i]? else none
/-- the changed lists behind a call -/
def OutsOk (K : Fr) (H : Hp) (S : Addr → Prop) (fn : Fn) (vs : List V) (os : List D) : Prop :=
  ∀ (j i : Nat), fn.io[j]? = some i → ∃ a d, vs[i]? = some (.ref a) ∧ os[j]? = some d ∧ OwnL K H S a d
def spF (K : Fr) (EA : EAt) (call : Nat → List D → OutC) (f : Nat) (fn : Fn) : Sp := fun vs H Q E => ∃ (S : Addr → Prop) (ds : List D), vs.length = fn.np ∧ ds.length = fn.np ∧
  Good K ⟨S, fun _ => False⟩ (vs.map some ++ List.replicate (fn.ns - vs.length) none) H (startE fn ds) (fsOf fn vs) ∧ (match call f ds with
  | .ok d os => ∀ v H', Keep (inF (fsOf fn vs)) H H' → ResOk K H H' S fn.fresh v d → OutsOk K H' S fn vs os → os.length = fn.io.length → Q v H'
  | .exc x os => ∀ cls dx H', Keep (inF (fsOf fn vs)) H H' → OutsOk K H' S fn vs os → os.length = fn.io.length → EA x cls dx H' → E cls dx H'
  | .bad => False)
/-- arguments as they stand ahead of the call -/
def ArgsOk (K : Fr) (H : Hp) (S : Addr → Prop) (Fs : List (Option Addr)) (io : List Nat) : Nat → List ME → List V → List D → Prop
  | _, [], [], [] => True
  | n, e :: es, v :: vs, d :: ds => (if io.contains n = true then ∃ j a, e = .var j ∧ v = .ref a ∧ Fs[j]? = some (some a) ∧ OwnL K H S a d else Rep K H S v d) ∧ ArgsOk K H S Fs io (n + 1) es vs ds
  | _, _, _, _ => False
theorem ArgsOk.len {K : Fr} {H : Hp} {S : Addr → Prop} {Fs : List (Option Addr)} {io : List Nat} : ∀ {es : List ME} {vs : List V} {ds : List D} {n : Nat}, ArgsOk K H S Fs io n es vs ds → vs.length = es.length ∧ ds.length = es.length
  | [], [], [], _, _ => ⟨rfl, rfl⟩
  | e :: es, v :: vs, d :: ds, n, h => by
    obtain ⟨h1, h2⟩ := ArgsOk.len h.2
    exact ⟨by simp [h1], by simp [h2]⟩
  | [], _ :: _, _, _, h => by simp [ArgsOk] at h
  | [], [], _ :: _, _, h => by simp [ArgsOk] at h
  | _ :: _, [], _, _, h => by simp [ArgsOk] at h
  | _ :: _, _ :: _, [], _, h => by simp [ArgsOk] at h
theorem ArgsOk.get {K : Fr} {H : Hp} {S : Addr → Prop} {Fs : List (Option Addr)} {io : List Nat} : ∀ {es : List ME} {vs : List V} {ds : List D} {n i : Nat} {v : V} {d : D}, ArgsOk K H S Fs io n es vs ds → vs[i]? = some v → ds[i]? = some d →
    if io.contains (n + i) = true then ∃ j a, es[i]? = some (.var j) ∧ v = .ref a ∧ Fs[j]? = some (some a) ∧ OwnL K H S a d else Rep K H S v d
  | e :: es, w :: vs, c :: ds, n, 0, v, d, h, hv, hd => by
    simp only [List.getElem?_cons_zero, Option.some.injEq] at hv hd
    subst hv hd
    have h1 := h.1
    by_cases hc : io.contains n = true
    · rw [if_pos hc] at h1
      rw [if_pos (by simpa using hc)]
      obtain ⟨j, a, rfl, h2, h3, h4⟩ := h1
      exact ⟨j, a, rfl, h2, h3, h4⟩
    · rw [if_neg hc] at h1
      rw [if_neg (by simpa using hc)]
      exact h1
  | e :: es, w :: vs, c :: ds, n, i + 1, v, d, h, hv, hd => by
    have := ArgsOk.get (i := i) h.2 (by simpa using hv) (by simpa using hd)
    rw [show n + 1 + i = n + (i + 1) by omega] at this
    exact this
  | [], [], [], _, _, _, _, _, hv, _ => by simp at hv
  | [], _ :: _, _, _, _, _, _, h, _, _ => by simp [ArgsOk] at h
  | [], [], _ :: _, _, _, _, _, h, _, _ => by simp [ArgsOk] at h
  | _ :: _, [], _, _, _, _, _, h, _, _ => by simp [ArgsOk] at h
  | _ :: _, _ :: _, [], _, _, _, _, h, _, _ => by simp [ArgsOk] at h
section
variable {X : Cx} {A0 : Prot} {EA : EAt} {W : WX} {k ka kb kc : Nat} {a b c e : Expr} {es : List Expr} {fa fb fc : Env → Out D} {pos : Pos}
def TAio (K : Fr) (A0 : Prot) (EA : EAt) (W : WX) (io : List Nat) (n : Nat) (ms : List ME) (fs : Env → Out (List D)) : TA := fun σ H Q => ∃ r Fs, Good K A0 σ H r Fs ∧ Pst K A0 EA W σ Fs H (fs r) fun ds r' _ =>
  ∀ vs H', Keep (inF Fs) H H' → Good K A0 σ H' r' Fs → ArgsOk K H' (Sv A0 Fs) Fs io n ms vs ds → Q vs H'
theorem tio_nil {io : List Nat} {n : Nat} : PA X [] (TAio X.K A0 EA W io n [] fun r => .ok [] r) := PA.imp pa_nil fun σ H Q ⟨r, Fs, G, h⟩ => h [] H Keep.refl G trivial
theorem tio_cons {io : List Nat} {n : Nat} {m : ME} {ms : List ME} {fs : Env → Out (List D)} (hn : io.contains n = false) (ha : PE X e (TEv X.K A0 EA W k fa)) (hr : PA X es (TAio X.K A0 EA W io (n + 1) ms fs)) (hs : notStar e = true) :
    PA X (e :: es) (TAio X.K A0 EA W io n (m :: ms) fun r => (fa r).bind fun d r1 => (fs r1).bind fun ds r2 => .ok (d :: ds) r2) := by
  refine PA.imp (pa_cons ha hr (star_cons hs)) fun σ H Q ⟨r, Fs, G, h⟩ => ⟨r, Fs, G, h.bind fun x r1 _ h1 => fun v1 H1 k1 G1 q1 => ⟨r1, Fs, G1, ?_⟩⟩
  refine (h1.bind (R' := fun ds r2 _ => ∀ vs H', Keep (inF Fs) H H' → Good X.K A0 σ H' r2 Fs → ArgsOk X.K H' (Sv A0 Fs) Fs io n (m :: ms) vs (x :: ds) → Q vs H') fun ds r2 _ h2 => h2).later k1 fun ds r2 h3 => fun vs H2 k2 G2 q2 => ?_
  exact h3 (v1 :: vs) H2 (k1.trans k2) G2 ⟨by rw [if_neg (by rw [hn]; exact Bool.false_ne_true)]; exact q1.1.keep k2 sub_in, q2⟩
theorem getM_at {σ : L2.St} {H : Hp} {r : Env} {Fs : List (Option Addr)} (G : Good X.K A0 σ H r Fs) {i : Nat} {d : D} (h : getM r i = some d) :
    ∃ p, σ[i]? = some (some (.ref p)) ∧ Fs[i]? = some (some p) ∧ OwnL X.K H (Sv A0 Fs) p d := by
  unfold getM at h
  split at h
  · rename_i d' e
    cases h
    obtain ⟨_, p, h1, h2, _, q⟩ := G.own i _ _ e
    exact ⟨p, h2, h1, q⟩
  · rename_i d' e
    cases h
    obtain ⟨p, h1, h2, _, q⟩ := G.chg i _ e
    exact ⟨p, h2, h1, q⟩
  · cases h
theorem tio_io {io : List Nat} {n j : Nat} {ms : List ME} {fs : Env → Out (List D)} {x : Str} (hn : io.contains n = true) (hN : X.N[j]? = some x) (hv : Vis X.env.scope x) (hd : (x == ("__debug__" : Str)) = false) (hcd : (x == ("__classdict__" : Str)) = false)
    (hr : PA X es (TAio X.K A0 EA W io (n + 1) ms fs)) :
    PA X (.Name x pos :: es) (TAio X.K A0 EA W io n (.var j :: ms) fun r => (lift (getM r j) r).bind fun _ r0 => (fs r0).bind fun ds r2 => match getM r2 j with
        | some d => .ok (d :: ds) r2
        | none => .bad) := by
  refine PA.imp (pa_cons (pe_var hN hv hd hcd) hr rfl) fun σ H Q ⟨r, Fs, G, h⟩ => ?_
  obtain ⟨d0, hd0, h⟩ := (h.bind (R' := fun _ r0 _ => Pst X.K A0 EA W σ Fs H ((fs r0).bind fun ds r2 => match getM r2 j with
        | some d => .ok (d :: ds) r2
        | none => .bad) fun ds r' _ => ∀ vs H', Keep (inF Fs) H H' → Good X.K A0 σ H' r' Fs → ArgsOk X.K H' (Sv A0 Fs) Fs io n (.var j :: ms) vs ds → Q vs H') fun _ _ _ h => h).lift
  obtain ⟨p, hσ, hF, _⟩ := getM_at G hd0
  refine ⟨_, hσ, r, Fs, G, h.bind fun ds r2 _ h1 => fun vs H2 k2 G2 q2 => ?_⟩
  cases e : getM r2 j with
  | none => rw [e] at h1; exact h1.elim
  | some d =>
    rw [e] at h1
    obtain ⟨p', hσ', hF', o'⟩ := getM_at G2 e
    rw [hF] at hF'
    cases hF'
    exact h1 _ H2 k2 G2 ⟨by rw [if_pos hn]; exact ⟨j, p, rfl, rfl, hF, o'⟩, q2⟩
theorem startE_len (fn : Fn) (ds : List D) (h : ds.length ≤ fn.ns) : (startE fn ds).length = fn.ns := by
  simp [startE]; omega
theorem startE_get (fn : Fn) (ds : List D) (i : Nat) : (startE fn ds)[i]? = if h : i < ds.length then some (if fn.io.contains i then .mut ds[i] else .val ds[i]) else if i < fn.ns then some .non else none := by
  unfold startE
  by_cases h : i < ds.length
  · rw [List.getElem?_append_left (by simp; exact h)]
    simp [h, List.getElem?_zip_eq_some, List.zip, List.getElem?_zipWith, List.getElem?_map]
  · rw [List.getElem?_append_right (by simp; omega)]
    simp only [List.length_map, List.length_zip, List.length_range, Nat.min_self, h, dite_false]
    rw [List.getElem?_replicate]
    by_cases h2 : i < fn.ns
    · rw [if_pos h2, if_pos (by omega)]
    · rw [if_neg h2, if_neg (by omega)]
theorem fsOf_get (fn : Fn) (vs : List V) (i : Nat) : (fsOf fn vs)[i]? = if i < fn.ns then some (if fn.io.contains i then addrOf vs[i]? else none) else none := by
  unfold fsOf
  by_cases h : i < fn.ns
  · simp [h]
  · simp [h]
theorem sig_get (vs : List V) (n i : Nat) : (vs.map some ++ List.replicate (n - vs.length) none)[i]? = if h : i < vs.length then some (some vs[i]) else if i < n then some none else none := by
  by_cases h : i < vs.length
  · rw [List.getElem?_append_left (by simpa using h)]
    simp [h]
  · rw [List.getElem?_append_right (by simp; omega)]
    simp only [List.length_map, h, dite_false]
    rw [List.getElem?_replicate]
    by_cases h2 : i < n
    · rw [if_pos h2, if_pos (by omega)]
    · rw [if_neg h2, if_neg (by omega)]
theorem ioSlots_get : ∀ {io : List Nat} {es : List ME} {js : List Nat}, ioSlots io es = some js → js.length = io.length ∧ ∀ (k i : Nat), io[k]? = some i → ∃ j, js[k]? = some j ∧ es[i]? = some (.var j)
  | [], es, js, h => by
    simp only [ioSlots, Option.some.injEq] at h
    subst h
    exact ⟨rfl, fun k i e => by simp at e⟩
  | i :: is, es, js, h => by
    simp only [ioSlots] at h
    split at h
    · rename_i j e
      obtain ⟨js', h1, rfl⟩ := Option.map_eq_some_iff.mp h
      obtain ⟨h2, h3⟩ := ioSlots_get h1
      refine ⟨by simp [h2], fun k i' e' => ?_⟩
      cases k with
      | zero => simp at e'; subst e'; exact ⟨j, rfl, e⟩
      | succ k => simpa using h3 k i' (by simpa using e')
    · cases h
/-- the callee's frame is good -/
theorem callee_good {σ : L2.St} {H : Hp} {r : Env} {Fs : List (Option Addr)} {K : Fr} (G : Good K A0 σ H r Fs) {fn : Fn} {ms : List ME} {vs : List V} {ds : List D} {js : List Nat} (hA : ArgsOk K H (Sv A0 Fs) Fs fn.io 0 ms vs ds)
    (hj : ioSlots fn.io ms = some js) (hnd : js.Nodup) (hl : ms.length = fn.np) (hns : fn.np ≤ fn.ns) :
    Good K ⟨Sv A0 Fs, fun _ => False⟩ (vs.map some ++ List.replicate (fn.ns - vs.length) none) H (startE fn ds) (fsOf fn vs) ∧
      (∀ a, inF (fsOf fn vs) a → inF Fs a) := by
  obtain ⟨l1, l2⟩ := hA.len
  obtain ⟨hjl, hjs⟩ := ioSlots_get hj
  have hvl : vs.length ≤ fn.ns := by omega
  -- an address of the callee
  have addr : ∀ {i : Nat} {a : Addr}, (fsOf fn vs)[i]? = some (some a) → ∃ j d, fn.io.contains i = true ∧ vs[i]? = some (.ref a) ∧ ds[i]? = some d ∧ ms[i]? = some (.var j) ∧ Fs[j]? = some (some a) ∧ OwnL K H (Sv A0 Fs) a d := by
    intro i a h
    rw [fsOf_get] at h
    split at h
    · simp only [Option.some.injEq] at h
      split at h
      · rename_i hc
        unfold addrOf at h
        split at h
        · rename_i a' e
          cases h
          have hi : i < vs.length := (List.getElem?_eq_some_iff.mp e).1
          have hd : ds[i]? = some (ds[i]'(by omega)) := List.getElem?_eq_getElem _
          have g := hA.get e hd
          rw [if_pos (by simpa using hc)] at g
          obtain ⟨j, a2, h1, h2, h3, h4⟩ := g
          cases h2
          exact ⟨j, _, hc, e, hd, h1, h3, h4⟩
        · cases h
      · cases h
    · cases h
  have sub : ∀ a, inF (fsOf fn vs) a → inF Fs a := fun a h => by
    obtain ⟨i, hi⟩ := List.mem_iff_getElem?.mp h
    obtain ⟨j, d, _, _, _, _, h1, _⟩ := addr hi
    exact List.mem_of_getElem? h1
  have sub2 : ∀ a, Sv ⟨Sv A0 Fs, fun _ => False⟩ (fsOf fn vs) a → Sv A0 Fs a := fun a h => h.elim id fun z => .inr (sub a z)
  refine ⟨⟨?_, ?_, fun i d e => ?_, fun i k d e => ?_, fun i d e => ?_, fun i d e => ?_, fun a h => h.elim, fun i j a h1 h2 => ?_, fun i a h => ?_, G.alS⟩, sub⟩
  · rw [startE_len fn ds (by omega)]; simp [fsOf]
  · rw [startE_len fn ds (by omega)]; simp; omega
  · rw [startE_get] at e
    split at e
    · rename_i hi
      simp only [Option.some.injEq] at e
      split at e
      · cases e
      · rename_i hc
        cases e
        have hi' : i < vs.length := by omega
        have g := hA.get (List.getElem?_eq_getElem hi') (List.getElem?_eq_getElem hi)
        rw [if_neg (by simpa using hc)] at g
        exact ⟨vs[i], by rw [sig_get, dif_pos hi'], g.mono fun a z => .inl (sub2 a z)⟩
    · split at e <;> cases e
  · rw [startE_get] at e
    split at e
    · simp only [Option.some.injEq] at e
      split at e <;> cases e
    · split at e <;> cases e
  · rw [startE_get] at e
    split at e
    · rename_i hi
      simp only [Option.some.injEq] at e
      split at e
      · rename_i hc
        cases e
        have hi' : i < vs.length := by omega
        have g := hA.get (List.getElem?_eq_getElem hi') (List.getElem?_eq_getElem hi)
        rw [if_pos (by simpa using hc)] at g
        obtain ⟨j, a, h1, h2, h3, h4⟩ := g
        refine ⟨a, ?_, by rw [sig_get, dif_pos hi', h2], .inr (List.mem_of_getElem? h3), h4.mono sub2⟩
        rw [fsOf_get, if_pos (by omega), if_pos hc, List.getElem?_eq_getElem hi', h2]
        rfl
      · cases e
    · split at e <;> cases e
  · rw [startE_get] at e
    split at e
    · simp only [Option.some.injEq] at e
      split at e <;> cases e
    · split at e <;> cases e
  · obtain ⟨p, d, hc, _, _, h3, h4, _⟩ := addr h1
    obtain ⟨q, d', hc', _, _, h5, h6, _⟩ := addr h2
    have e := G.inj _ _ _ h4 h6
    subst e
    obtain ⟨ki, hki⟩ := List.mem_iff_getElem?.mp (List.contains_iff_mem.mp hc)
    obtain ⟨kj, hkj⟩ := List.mem_iff_getElem?.mp (List.contains_iff_mem.mp hc')
    obtain ⟨j1, e1, e2⟩ := hjs ki i hki
    obtain ⟨j2, e3, e4⟩ := hjs kj j hkj
    rw [h3] at e2; cases e2
    rw [h5] at e4; cases e4
    have hk : ki = kj := by
      have z1 := (List.getElem?_eq_some_iff.mp e1)
      have z2 := (List.getElem?_eq_some_iff.mp e3)
      obtain ⟨b1, c1⟩ := z1
      obtain ⟨b2, c2⟩ := z2
      exact nodup_inj hnd e1 e3
    subst hk
    rw [hki] at hkj
    cases hkj
    rfl
  · obtain ⟨p, d, hc, h1, h2, _⟩ := addr h
    right
    refine ⟨d, ?_⟩
    obtain ⟨hi, rfl⟩ := List.getElem?_eq_some_iff.mp h2
    rw [startE_get, dif_pos hi, if_pos hc]
theorem putM_get {r : Env} {j : Nat} {d : D} {i : Nat} : (putM r j d)[i]? = if i = j then (match r[i]? with
    | some (.own 1 _) => some (.own 1 d)
    | some (.mut _) => some (.mut d)
    | o => o) else r[i]? := by
  unfold putM
  by_cases e : i = j
  · subst e
    rw [if_pos rfl]
    split
    · rename_i d' h
      have hi := (List.getElem?_eq_some_iff.mp h).1
      first
        | (rw [List.getElem?_set_self hi, h]; done)
        | (rw [List.getElem?_set_self hi, h]; rfl)
        | exact List.getElem?_set_self hi
    · rename_i d' h
      have hi := (List.getElem?_eq_some_iff.mp h).1
      first
        | (rw [List.getElem?_set_self hi, h]; done)
        | (rw [List.getElem?_set_self hi, h]; rfl)
        | exact List.getElem?_set_self hi
    · first
        | rfl
        | (rename_i h1 h2
           split
           · rename_i h; exact absurd h (h1 _)
           · rename_i h; exact absurd h (h2 _)
           · rfl)
  · rw [if_neg e]
    split
    · rw [List.getElem?_set_ne (fun z => e z.symm)]
    · rw [List.getElem?_set_ne (fun z => e z.symm)]
    · rfl
/-- one changed list back in its slot -/
theorem Good.put {σ : L2.St} {H H' : Hp} {r : Env} {Fs : List (Option Addr)} {K : Fr} (G : Good K A0 σ H r Fs) {j : Nat} {p : Addr} {d : D} (hF : Fs[j]? = some (some p)) (kp : Keep (fun a => a = p) H H') (o : OwnL K H' (Sv A0 Fs) p d) : Good K A0 σ H' (putM r j d) Fs := by
  have hS : ∀ a, a = p → Sv A0 Fs a := fun a e => by rw [e]; exact .inr (List.mem_of_getElem? hF)
  have nP : ∀ a, A0.p a → ¬ a = p := fun a h e => (G.pal a h).1 (e ▸ List.mem_of_getElem? hF)
  refine ⟨?_, ?_, fun i e h => ?_, fun i k e h => ?_, fun i e h => ?_, fun i e h => ?_, fun a h => ⟨(G.pal a h).1, kp.2 a (G.pal a h).2⟩, G.inj, fun i a h => ?_, fun a h => kp.2 a (G.al a h)⟩
  · rw [G.len]; unfold putM; split <;> simp
  · rw [G.slen]; unfold putM; split <;> simp
  · rw [putM_get] at h
    split at h
    · split at h <;> first | cases h | skip
      rename_i h1 h2
      obtain ⟨v, q1, q2⟩ := G.val i e h
      exact ⟨v, q1, q2.keep kp hS⟩
    · obtain ⟨v, q1, q2⟩ := G.val i e h
      exact ⟨v, q1, q2.keep kp hS⟩
  · rw [putM_get] at h
    split at h
    · rename_i hij
      subst hij
      split at h
      · rename_i d' h'
        cases h
        obtain ⟨_, a, q1, q2, q3, q4⟩ := G.own i _ _ h'
        rw [hF] at q1; cases q1
        exact ⟨rfl, p, hF, q2, q3, o⟩
      · cases h
      · rename_i h1 h2
        obtain ⟨ek, _⟩ := G.own i k e h
        subst ek
        exact absurd h (h1 _)
    · rename_i hij
      obtain ⟨ek, a, q1, q2, q3, q4⟩ := G.own i k e h
      refine ⟨ek, a, q1, q2, q3, q4.keep kp hS fun z => hij ?_⟩
      subst z
      exact G.inj i j _ q1 hF
  · rw [putM_get] at h
    split at h
    · rename_i hij
      subst hij
      split at h
      · cases h
      · rename_i d' h'
        cases h
        obtain ⟨a, q1, q2, q3, q4⟩ := G.chg i _ h'
        rw [hF] at q1; cases q1
        exact ⟨p, hF, q2, q3, o⟩
      · rename_i h1 h2
        exact absurd h (h2 _)
    · rename_i hij
      obtain ⟨a, q1, q2, q3, q4⟩ := G.chg i e h
      refine ⟨a, q1, q2, q3, q4.keep kp hS fun z => hij ?_⟩
      subst z
      exact G.inj i j _ q1 hF
  · have hr : r[i]? = some (.prt e) := by
      rw [putM_get] at h
      split at h
      · split at h <;> first | cases h | exact h
      · exact h
    obtain ⟨a, q1, q2, q3⟩ := G.prt i e hr
    exact ⟨a, q1, q2, q3.keep kp hS (nP a q2)⟩
  · rw [putM_get]
    by_cases e : i = j
    · subst e
      rw [if_pos rfl]
      rcases G.emp i a h with ⟨d', q⟩ | ⟨d', q⟩
      · rw [q]; exact .inl ⟨d, rfl⟩
      · rw [q]; exact .inr ⟨d, rfl⟩
    · rw [if_neg e]
      exact G.emp i a h
/-- several, at one blow -/
theorem putMs_len : ∀ {js : List Nat} {ds : List D} {r : Env}, (putMs r js ds).length = r.length
  | [], _, _ => rfl
  | j :: js, [], _ => rfl
  | j :: js, d :: ds, r => by
    show (putMs (putM r j d) js ds).length = _
    rw [putMs_len]
    unfold putM; split <;> simp
theorem putMs_get : ∀ {js : List Nat} {ds : List D} {r : Env} {i : Nat}, js.Nodup → ds.length = js.length →
    (i ∉ js → (putMs r js ds)[i]? = r[i]?) ∧ ∀ (k : Nat), js[k]? = some i → ∃ d, ds[k]? = some d ∧ (putMs r js ds)[i]? = (putM r i d)[i]?
  | [], ds, r, i, _, _ => ⟨fun _ => rfl, fun k h => by simp at h⟩
  | j :: js, [], r, i, _, h => by simp at h
  | j :: js, d :: ds, r, i, hn, hl => by
    obtain ⟨n1, n2⟩ := List.nodup_cons.mp hn
    obtain ⟨g1, g2⟩ := putMs_get (js := js) (ds := ds) (r := putM r j d) (i := i) n2 (by simpa using hl)
    have same : ∀ d', i ≠ j → (putM (putM r j d) i d')[i]? = (putM r i d')[i]? := fun d' e => by
      rw [putM_get, if_pos rfl, putM_get, if_neg e, putM_get, if_pos rfl]
    refine ⟨fun hi => ?_, fun k hk => ?_⟩
    · simp only [List.mem_cons, not_or] at hi
      show (putMs (putM r j d) js ds)[i]? = _
      rw [g1 hi.2, putM_get, if_neg hi.1]
    · cases k with
      | zero =>
        simp only [List.getElem?_cons_zero, Option.some.injEq] at hk
        subst hk
        exact ⟨d, rfl, g1 n1⟩
      | succ k =>
        simp only [List.getElem?_cons_succ] at hk
        obtain ⟨d', e1, e2⟩ := g2 k hk
        have ne : i ≠ j := fun e => n1 (e ▸ List.mem_of_getElem? hk)
        exact ⟨d', by simpa using e1, e2.trans (same d' ne)⟩
theorem Good.puts {σ : L2.St} {H H' : Hp} {r : Env} {Fs : List (Option Addr)} {K : Fr} (G : Good K A0 σ H r Fs) {js : List Nat} {os : List D} {P : Addr → Prop} (hn : js.Nodup) (hl : os.length = js.length)
    (kp : Keep P H H') (hP : ∀ a, P a → ∃ j, j ∈ js ∧ Fs[j]? = some (some a))
    (ho : ∀ (k j : Nat) d, js[k]? = some j → os[k]? = some d → ∃ a, Fs[j]? = some (some a) ∧ OwnL K H' (Sv A0 Fs) a d) : Good K A0 σ H' (putMs r js os) Fs := by
  have hS : ∀ a, P a → Sv A0 Fs a := fun a e => by
    obtain ⟨j, _, h⟩ := hP a e
    exact .inr (List.mem_of_getElem? h)
  have at_ : ∀ i, (i ∉ js ∧ (putMs r js os)[i]? = r[i]?) ∨ ∃ k d a, js[k]? = some i ∧ os[k]? = some d ∧ (putMs r js os)[i]? = (putM r i d)[i]? ∧ Fs[i]? = some (some a) ∧ OwnL K H' (Sv A0 Fs) a d := fun i => by
    obtain ⟨g1, g2⟩ := putMs_get (r := r) (i := i) hn hl
    by_cases hi : i ∈ js
    · obtain ⟨k, hk⟩ := List.mem_iff_getElem?.mp hi
      obtain ⟨d, e1, e2⟩ := g2 k hk
      obtain ⟨a, h1, h2⟩ := ho k i d hk e1
      exact .inr ⟨k, d, a, hk, e1, e2, h1, h2⟩
    · exact .inl ⟨hi, g1 hi⟩
  have nP : ∀ {i : Nat} {a : Addr}, i ∉ js → Fs[i]? = some (some a) → ¬ P a := fun {i a} hi hF z => by
    obtain ⟨j, hj, h⟩ := hP a z
    exact hi (G.inj i j a hF h ▸ hj)
  refine ⟨?_, ?_, fun i e h => ?_, fun i k e h => ?_, fun i e h => ?_, fun i e h => ?_, fun a h => ⟨(G.pal a h).1, kp.2 a (G.pal a h).2⟩, G.inj, fun i a h => ?_, fun a h => kp.2 a (G.al a h)⟩
  · rw [G.len, putMs_len]
  · rw [G.slen, putMs_len]
  · have hr : r[i]? = some (.val e) := by
      rcases at_ i with ⟨_, q⟩ | ⟨k, d, a, _, _, q, _⟩
      · rw [← q]; exact h
      · rw [q, putM_get, if_pos rfl] at h
        split at h <;> first | cases h | exact h
    obtain ⟨v, q1, q2⟩ := G.val i e hr
    exact ⟨v, q1, q2.keep kp hS⟩
  · rcases at_ i with ⟨hi, q⟩ | ⟨k', d, a, _, _, q, hF, o⟩
    · rw [q] at h
      obtain ⟨ek, a, q1, q2, q3, q4⟩ := G.own i k e h
      exact ⟨ek, a, q1, q2, q3, q4.keep kp hS (nP hi q1)⟩
    · rw [q, putM_get, if_pos rfl] at h
      split at h
      · rename_i d' h'
        cases h
        obtain ⟨_, a', q1, q2, q3, q4⟩ := G.own i _ _ h'
        rw [hF] at q1; cases q1
        exact ⟨rfl, a, hF, q2, q3, o⟩
      · cases h
      · rename_i h1 h2
        obtain ⟨ek, _⟩ := G.own i k e h
        subst ek
        exact absurd h (h1 _)
  · rcases at_ i with ⟨hi, q⟩ | ⟨k', d, a, _, _, q, hF, o⟩
    · rw [q] at h
      obtain ⟨a, q1, q2, q3, q4⟩ := G.chg i e h
      exact ⟨a, q1, q2, q3, q4.keep kp hS (nP hi q1)⟩
    · rw [q, putM_get, if_pos rfl] at h
      split at h
      · cases h
      · rename_i d' h'
        cases h
        obtain ⟨a', q1, q2, q3, q4⟩ := G.chg i _ h'
        rw [hF] at q1; cases q1
        exact ⟨a, hF, q2, q3, o⟩
      · rename_i h1 h2
        exact absurd h (h2 _)
  · have hr : r[i]? = some (.prt e) := by
      rcases at_ i with ⟨_, q⟩ | ⟨k, d, a, _, _, q, _⟩
      · rw [← q]; exact h
      · rw [q, putM_get, if_pos rfl] at h
        split at h <;> first | cases h | exact h
    obtain ⟨a, q1, q2, q3⟩ := G.prt i e hr
    refine ⟨a, q1, q2, q3.keep kp hS fun z => ?_⟩
    obtain ⟨j, _, hj⟩ := hP a z
    exact (G.pal a q2).1 (List.mem_of_getElem? hj)
  · rcases at_ i with ⟨hi, q⟩ | ⟨k', d, a', _, _, q, hF, o⟩
    · rw [q]; exact G.emp i a h
    · rw [q, putM_get, if_pos rfl]
      rcases G.emp i a h with ⟨d', q⟩ | ⟨d', q⟩
      · rw [q]; exact .inl ⟨d, rfl⟩
      · rw [q]; exact .inr ⟨d, rfl⟩
/-- the callee's changed lists, in the caller's frame -/
theorem outs_put {σ : L2.St} {H H' : Hp} {r : Env} {Fs : List (Option Addr)} {K : Fr} (G : Good K A0 σ H r Fs) {fn : Fn} {ms : List ME} {vs : List V} {ds os : List D} {js : List Nat} (hA : ArgsOk K H (Sv A0 Fs) Fs fn.io 0 ms vs ds)
    (hj : ioSlots fn.io ms = some js) (hnd : js.Nodup) (hl : ms.length = fn.np) (hns : fn.np ≤ fn.ns) (kp : Keep (inF (fsOf fn vs)) H H') (ho : OutsOk K H' (Sv A0 Fs) fn vs os) (hol : os.length = fn.io.length) : Good K A0 σ H' (putMs r js os) Fs := by
  obtain ⟨l1, l2⟩ := hA.len
  obtain ⟨hjl, hjs⟩ := ioSlots_get hj
  refine G.puts hnd (by omega) kp (fun a ha => ?_) (fun k j d hk hd => ?_)
  · obtain ⟨i, hi⟩ := List.mem_iff_getElem?.mp ha
    rw [fsOf_get] at hi
    split at hi
    · simp only [Option.some.injEq] at hi
      split at hi
      · rename_i hc
        unfold addrOf at hi
        split at hi
        · rename_i a' e
          cases hi
          have hi' : i < vs.length := (List.getElem?_eq_some_iff.mp e).1
          have g := hA.get e (List.getElem?_eq_getElem (show i < ds.length by omega))
          rw [if_pos (by simpa using hc)] at g
          obtain ⟨j, a2, h1, h2, h3, h4⟩ := g
          cases h2
          obtain ⟨ki, hki⟩ := List.mem_iff_getElem?.mp (List.contains_iff_mem.mp hc)
          obtain ⟨j1, e1, e2⟩ := hjs ki i hki
          rw [h1] at e2; cases e2
          exact ⟨j, List.mem_of_getElem? e1, h3⟩
        · cases hi
      · cases hi
    · cases hi
  · have hk' : k < fn.io.length := by rw [← hjl]; exact (List.getElem?_eq_some_iff.mp hk).1
    have hio : fn.io[k]? = some (fn.io[k]) := List.getElem?_eq_getElem hk'
    obtain ⟨j1, e1, e2⟩ := hjs k _ hio
    rw [hk] at e1; cases e1
    obtain ⟨a, d', h1, h2, h3⟩ := ho k _ hio
    rw [hd] at h2; cases h2
    have hi' : fn.io[k] < vs.length := (List.getElem?_eq_some_iff.mp h1).1
    have g := hA.get h1 (List.getElem?_eq_getElem (show fn.io[k] < ds.length by omega))
    rw [if_pos (by simp)] at g
    obtain ⟨j2, a2, q1, q2, q3, q4⟩ := g
    cases q2
    rw [e2] at q1; cases q1
    exact ⟨a, q3, h3⟩
/-- a call -/
theorem te_call {call : Nat → List D → OutC} {f k' : Nat} {fn : Fn} {fa : Addr} {fd : FuncData} {ps : List Str} {x : Str} {p : Pos} {ms : List ME} {js : List Nat} {fs : Env → Out (List D)}
    (F : FnOk X.prog X.w X.K X.mg X.base (L2.CX X.prog X.w) k' fa fd ps (spF X.K EA call f fn)) (hr : Room k' X.A) (hg : Gl X x) (hm : X.mg x = some (.ref fa)) (hk : PySem.W.keepIn X.K (.ref fa) = true) (hb : Binds X.K fd ps []) (tk : Takes X W)
    (hj : ioSlots fn.io ms = some js) (hnd : js.Nodup) (hl : ms.length = fn.np) (hns : fn.np ≤ fn.ns)
    (ha : PA X (e :: es) (TAio X.K A0 EA W fn.io 0 ms fs)) (hdb : (x == ("__debug__" : Str)) = false) (he : notStar e = true) (hes : es.all notStar = true) :
    PE X (.Call (.Name x p) (e :: es) [] pos) (TEv X.K A0 EA W fn.fresh fun r => (fs r).bind fun ds r1 => match call f ds with
        | .ok d os => if os.length = js.length then .ok d (putMs r1 js os) else .bad
        | .exc x os => if os.length = js.length then .exc x (putMs r1 js os) else .bad
        | .bad => .bad) := by
  refine PE.imp (pe_callS F hr hg hm hk hb (fun σ => passAt tk σ) ha hdb (star_cons he) (star_none hes)) fun σ H Q ⟨r, Fs, G, h⟩ => ⟨r, Fs, G, h.bind fun ds r1 _ h1 => fun vs H1 k1 G1 q1 => ?_⟩
  obtain ⟨hjl, _⟩ := ioSlots_get hj
  obtain ⟨l1, l2⟩ := q1.len
  obtain ⟨CG, sub⟩ := callee_good G1 q1 hj hnd hl hns
  refine ⟨Sv A0 Fs, ds, by omega, by omega, CG, ?_⟩
  cases e : call f ds with
  | bad => rw [e] at h1; exact h1.elim
  | ok d os =>
    rw [e] at h1
    intro v H' kp rv ho hol
    simp only at h1
    rw [if_pos (by omega)] at h1
    exact h1 v H' (k1.trans (kp.weak sub)) (outs_put G1 q1 hj hnd hl hns kp ho hol) (rv.back k1)
  | exc x os =>
    rw [e] at h1
    intro cls dx H' kp ho hol hE
    simp only at h1
    rw [if_pos (by omega)] at h1
    exact h1 cls dx H' (k1.trans (kp.weak sub)) (outs_put G1 q1 hj hnd hl hns kp ho hol) hE
end
end Cw
end

section
namespace Cw
open PySem PySem.Spec PyProof.Rows L2

structure CkP where
  N : List Str
  fn : Str → Option Nat
  cst : Str → Option D
  blt : Str → Bool
  T : Nat → Option Fn
def gl (sc : Scope) (x : Str) : Bool := decide (sc.names.lookup x = some .globalImplicit)
def vis (sc : Scope) (x : Str) : Bool := match sc.names.lookup x with
  | some .local => true
  | some .cell => true
  | some .free => true
  | _ => false
def noDbg (x : Str) : Bool := !(x == ("__debug__" : Str)) && !(x == ("__classdict__" : Str))
def sameD : D → D → Bool
  | .none, .none => true
  | .bool a, .bool b => a == b
  | .int a, .int b => decide (a = b)
  | .str a, .str b => decide (a = b)
  | .tuple xs, .tuple ys => sameDs xs ys
  | _, _ => false
where sameDs : List D → List D → Bool
  | [], [] => true
  | x :: xs, y :: ys => sameD x y && sameDs xs ys
  | _, _ => false
mutual
theorem sameD_eq : ∀ {a b : D}, sameD a b = true → a = b
  | .none, b, h => by cases b <;> simp_all [sameD]
  | .bool x, b, h => by cases b <;> simp_all [sameD]
  | .int x, b, h => by cases b <;> simp_all [sameD]
  | .str x, b, h => by cases b <;> simp_all [sameD]
  | .tuple xs, b, h => by
    cases b <;> simp only [sameD, Bool.false_eq_true] at h
    rw [sameDs_eq h]
  | .list xs, b, h => by cases b <;> simp_all [sameD]
  | .dict xs, b, h => by cases b <;> simp_all [sameD]
theorem sameDs_eq : ∀ {a b : List D}, sameD.sameDs a b = true → a = b
  | [], b, h => by cases b <;> simp_all [sameD.sameDs]
  | x :: xs, b, h => by
    cases b <;> simp only [sameD.sameDs, Bool.false_eq_true, Bool.and_eq_true] at h
    rw [sameD_eq h.1, sameDs_eq h.2]
end
def isCon (d : D) : Const → Bool
  | .none => isNon d
  | .bool b => match d with
    | .bool c => b == c
    | _ => false
  | .int i => match d with
    | .int j => decide (i = j)
    | _ => false
  | .str x => match d with
    | .str y => decide (x = y)
    | _ => false
  | _ => false
def notSlice : Expr → Bool
  | .Slice .. => false
  | _ => true
def notSet : Expr → Bool
  | .Set .. => false
  | _ => true
def isTupE : Expr → Bool
  | .Tuple .. => true
  | _ => false
def isIt : ME → Bool
  | .rng .. => true
  | .enum .. => true
  | .zip .. => true
  | .rev .. => true
  | _ => false
def tupIt : ME → Bool
  | .enum .. => true
  | .zip .. => true
  | _ => false
/-- a comprehension's own names -/
def ownOf (N : List Str) (is : List Nat) : List (Str × Nat) := is.map fun i => (N.getD i "", i)
def okTg (N : List Str) (sc : Scope) (i : Nat) (x : Str) : Bool := decide (N[i]? = some x) && (match sc.names.lookup x with
  | some .local => true
  | some .cell => true
  | _ => false)
def pname (e : Expr) (x : Str) : Bool := match e with
  | .Name y _ => decide (y = x)
  | _ => false
mutual
def ckE (P : CkP) : ME → Scope → Expr → Bool
  | .var i, sc, e => match e with
    | .Name x _ => decide (P.N[i]? = some x) && vis sc x && noDbg x
    | _ => false
  | .con d, sc, e => match e with
    | .Constant c _ _ => isCon d c
    | .Name x _ => gl sc x && noDbg x && (match P.cst x with
      | some d' => sameD d d'
      | none => false)
    | _ => false
  | .tup es, sc, e => match e with
    | .Tuple xs _ _ => ckEs P es sc xs
    | _ => false
  | .lst es, sc, e => match e with
    | .List xs _ => ckEs P es sc xs
    | _ => false
  | .bin op a b, sc, e => match e with
    | .BinOp x o y _ => decide (o = opOf op) && (!isIt a && ckE P a sc x) && (!isIt b && ckE P b sc y)
    | _ => false
  | .lrep es b, sc, e => match e with
    | .BinOp x o y _ => (match x with
      | .List xs _ => decide (o = .Mult) && ckEs P es sc xs && (!isIt b && ckE P b sc y)
      | _ => false)
    | _ => false
  | .neg a, sc, e => match e with
    | .UnaryOp o x _ => decide (o = .USub) && (!isIt a && ckE P a sc x)
    | _ => false
  | .cmp op a b, sc, e => match e with
    | .Compare x os ys _ => (match ys with
      | [y] => decide (os = [copOf op]) && notSet y && (!isIt a && ckE P a sc x) && (!isIt b && ckE P b sc y)
      | _ => false)
    | _ => false
  | .chain p q a b c, sc, e => match e with
    | .Compare x os ys _ => (match ys with
      | [y, z] => decide (os = [copOf p, copOf q]) && notSet z && (!isIt a && ckE P a sc x) && (!isIt b && ckE P b sc y) && (!isIt c && ckE P c sc z)
      | _ => false)
    | _ => false
  | .and a b, sc, e => match e with
    | .BoolOp o xs p => decide (o = .And) && (match xs with
      | x :: y :: ys => (!isIt a && ckE P a sc x) && (!isIt b && ckE P b sc (match ys with
        | [] => y
        | _ => .BoolOp .And (y :: ys) p))
      | _ => false)
    | _ => false
  | .or a b, sc, e => match e with
    | .BoolOp o xs p => decide (o = .Or) && (match xs with
      | x :: y :: ys => (!isIt a && ckE P a sc x) && (!isIt b && ckE P b sc (match ys with
        | [] => y
        | _ => .BoolOp .Or (y :: ys) p))
      | _ => false)
    | _ => false
  | .not a, sc, e => match e with
    | .UnaryOp o x _ => decide (o = .Not) && (!isIt a && ckE P a sc x)
    | _ => false
  | .ite c a b, sc, e => match e with
    | .IfExp t x y _ => (!isIt c && ckE P c sc t) && (!isIt a && ckE P a sc x) && (!isIt b && ckE P b sc y)
    | _ => false
  | .idx a i, sc, e => match e with
    | .Subscript x y _ => notSlice y && (!isIt a && ckE P a sc x) && (!isIt i && ckE P i sc y)
    | _ => false
  | .sidx i b, sc, e => match e with
    | .Subscript x y _ => (match x with
      | .Name z _ => decide (P.N[i]? = some z) && vis sc z && noDbg z && notSlice y && (!isIt b && ckE P b sc y)
      | _ => false)
    | _ => false
  | .slc a lo hi, sc, e => match e with
    | .Subscript x y _ => (match y with
      | .Slice l h s _ => s.isNone && (!isIt a && ckE P a sc x) && ckO P lo sc l && ckO P hi sc h
      | _ => false)
    | _ => false
  | .call f es, sc, e => match e with
    | .Call x args kws _ => (match x with
      | .Name z _ => gl sc z && noDbg z && decide (P.fn z = some f) && kws.isEmpty && !args.isEmpty && args.all notStar && (match P.T f with
        | none => false
        | some fn => (match ioSlots fn.io es with
          | none => false
          | some js => decide js.Nodup && decide (es.length = fn.np) && decide (fn.np ≤ fn.ns) && ckAs P fn.io 0 es sc args))
      | _ => false)
    | _ => false
  | .bi b es, sc, e => match e with
    | .Call x args kws _ => pname x (biName b) && gl sc (biName b) && P.blt (biName b) && kws.isEmpty && !args.isEmpty && ckEs P es sc args
    | _ => false
  | .isa a ts, sc, e => match e with
    | .Call x args kws _ => pname x "isinstance" && gl sc "isinstance" && P.blt "isinstance" && kws.isEmpty && (ts.all fun t => gl sc (tyS t) && P.blt (tyS t)) && decide (ts.length ≤ 1000) && (match args with
      | [y, z] => notStar y && (!isIt a && ckE P a sc y) && (match z with
        | .Name n _ => (match ts with
          | [t] => decide (n = tyS t)
          | _ => false)
        | .Tuple zs _ _ => tyNames ts zs
        | _ => false)
      | _ => false)
    | _ => false
  | .mt _ _ _, _, _ => false
  | .comp elt t it c, sc, e => match e with
    | .ListComp x gs scope _ => (match gs with
      | [⟨tg, iter, ifs, n⟩] => decide (n = 0) && notSet iter && blkC P.N sc scope (ownOf P.N (tgS t)) && tgIs (okTg P.N scope) t tg && (!tupIt it || isTupE tg) && ckE P it sc iter && ckC P c (relS scope sc) ifs && (!isIt elt && ckE P elt (relS scope sc) x)
      | _ => false)
    | _ => false
  | .comp2 elt t it c t1 it1 c1, sc, e => match e with
    | .ListComp x gs scope _ => (match gs with
      | [⟨tg, iter, ifs, n⟩, ⟨tg1, iter1, ifs1, n1⟩] => decide (n = 0) && decide (n1 = 0) && notSet iter && notSet iter1 && blkC P.N sc scope (ownOf P.N (tgS t ++ tgS t1)) && tgIs (okTg P.N scope) t tg && tgIs (okTg P.N scope) t1 tg1 && (!tupIt it || isTupE tg) && (!tupIt it1 || isTupE tg1) &&
          ckE P it sc iter && ckC P c (relS scope sc) ifs && ckE P it1 (relS scope sc) iter1 && ckC P c1 (relS scope sc) ifs1 && (!isIt elt && ckE P elt (relS scope sc) x)
      | _ => false)
    | _ => false
  | .rng a b, sc, e => match e with
    | .Call x args kws _ => pname x "range" && gl sc "range" && P.blt "range" && kws.isEmpty && (match args with
      | [z] => (match a with
        | .con (.int i) => decide (i = 0)
        | _ => false) && notStar z && (!isIt b && ckE P b sc z)
      | [y, z] => notStar y && notStar z && (!isIt a && ckE P a sc y) && (!isIt b && ckE P b sc z)
      | _ => false)
    | _ => false
  | .enum a, sc, e => match e with
    | .Call x args kws _ => pname x "enumerate" && gl sc "enumerate" && P.blt "enumerate" && kws.isEmpty && (match args with
      | [z] => notStar z && (!isIt a && ckE P a sc z)
      | _ => false)
    | _ => false
  | .zip a b, sc, e => match e with
    | .Call x args kws _ => pname x "zip" && gl sc "zip" && P.blt "zip" && kws.isEmpty && (match args with
      | [y, z] => notStar y && notStar z && (!isIt a && ckE P a sc y) && (!isIt b && ckE P b sc z)
      | _ => false)
    | _ => false
  | .rev a, sc, e => match e with
    | .Call x args kws _ => pname x "reversed" && gl sc "reversed" && P.blt "reversed" && kws.isEmpty && (match args with
      | [z] => notStar z && (!isIt a && ckE P a sc z)
      | _ => false)
    | _ => false
def ckEs (P : CkP) : List ME → Scope → List Expr → Bool
  | [], sc, es => es.isEmpty
  | m :: ms, sc, es => match es with
    | e :: es => notStar e && (!isIt m && ckE P m sc e) && ckEs P ms sc es
    | [] => false
def ckAs (P : CkP) (io : List Nat) : Nat → List ME → Scope → List Expr → Bool
  | n, [], sc, es => es.isEmpty
  | n, m :: ms, sc, es => match es with
    | e :: es => (if io.contains n then (match m with
      | .var j => (match e with
        | .Name x _ => decide (P.N[j]? = some x) && vis sc x && noDbg x
        | _ => false)
      | _ => false) else notStar e && (!isIt m && ckE P m sc e)) && ckAs P io (n + 1) ms sc es
    | [] => false
def ckO (P : CkP) : Option ME → Scope → Option Expr → Bool
  | none, sc, e => e.isNone
  | some m, sc, e => match e with
    | some e => !isIt m && ckE P m sc e
    | none => false
def ckC (P : CkP) : Option ME → Scope → List Expr → Bool
  | none, sc, es => es.isEmpty
  | some m, sc, es => match es with
    | [e] => !isIt m && ckE P m sc e
    | _ => false
end
def frE (P : CkP) : ME → Nat
  | .con _ => 1
  | .lst _ => 1
  | .bin .. => 1
  | .lrep .. => 1
  | .slc .. => 1
  | .comp .. => 1
  | .comp2 .. => 1
  | .bi b _ => frBi b
  | .call f _ => match P.T f with
    | some fn => fn.fresh
    | none => 0
  | .ite _ a b => if frE P a = 1 ∧ frE P b = 1 then 1 else 0
  | _ => 0
end Cw
end

section
namespace Cw
open PySem PySem.Spec PyProof.Rows L2

structure XOk (P : CkP) (EA : EAt) (call : Nat → List D → OutC) (X : Cx) (sc : Scope) (W : WX) : Prop where
  N : X.N = P.N
  nd : P.N.Nodup
  calm : X.calm = true
  hu : X.A.units + 70 < cLine
  sc : X.env.scope = sc
  tk : Takes X W
  blt : ∀ x, P.blt x = true → X.mg x = none
  fns : ∀ x f fn, P.fn x = some f → P.T f = some fn → ∃ k fa fd ps, FnOk X.prog X.w X.K X.mg X.base (L2.CX X.prog X.w) k fa fd ps (spF X.K EA call f fn) ∧ Room k X.A ∧ X.mg x = some (.ref fa) ∧ PySem.W.keepIn X.K (.ref fa) = true ∧ Binds X.K fd ps []
  cst : ∀ x d, P.cst x = some d → ∃ v u, X.mg x = some u ∧ RelV v u ∧ (∀ (H : Hp) S, Rep X.K H S v d) ∧ ∀ ds, d ≠ .list ds
section
variable {P : CkP} {EA : EAt} {call : Nat → List D → OutC} {X : Cx} {sc : Scope} {W : WX}
theorem XOk.blk (h : XOk P EA call X sc W) (s : Shared) (H : Hp) (scope : Scope) (C : Addr) (cl : List (Str × Addr)) (fp : List Addr) : XOk P EA call (X.blk s H scope (compEnvC scope cl C X.env) fp) (relS scope sc) WNo where
  N := h.N
  nd := h.nd
  calm := h.calm
  hu := h.hu
  sc := by rw [← h.sc]; rfl
  tk := fun u s' ⟨_, _, _, _, _, _, _, _, _, _, _, _, _, _, _, _, w⟩ => w.elim
  blt := h.blt
  fns := h.fns
  cst := h.cst
theorem gl_of (h : XOk P EA call X sc W) {x : Str} (g : gl sc x = true) : Gl X x := by
  have := of_decide_eq_true g
  unfold Gl PySem.Env.kindOf
  rw [h.sc]; exact this
theorem vis_of {x : Str} (h : XOk P EA call X sc W) (g : vis sc x = true) : Vis X.env.scope x := by
  rw [h.sc]
  unfold vis at g
  split at g
  · exact .inl (by assumption)
  · exact .inr (.inl (by assumption))
  · exact .inr (.inr (by assumption))
  · cases g
theorem dbg1 {x : Str} (h : noDbg x = true) : (x == ("__debug__" : Str)) = false ∧ (x == ("__classdict__" : Str)) = false := by
  simpa [noDbg] using h
theorem slice_ok {y : Expr} (h : notSlice y = true) : PlainIx y := by
  intro o i
  cases y <;> first | rfl | (simp [notSlice] at h)
theorem set_ok {y : Expr} (h : notSet y = true) : ∀ es k p, y ≠ .Set es k p := by
  intro es k p e
  subst e
  simp [notSet] at h
theorem fold_ok {y : Expr} (h : notSet y = true) : ∀ env x, foldedSetIterable y env x = pure x := by
  intro env x
  cases y <;> first | rfl | (simp [notSet] at h)
theorem pt_ite {a b c : Expr} {tc ta tb : TT} {pos : Pos} (hc : PT X c tc) (ha : PT X a ta) (hb : PT X b tb) : PT X (.IfExp c a b pos) (fun σ H Q => tc σ H fun t H1 => if t = true then ta σ H1 Q else tb σ H1 Q) := by
  refine ⟨fun pins s σ H Q I h => ?_⟩
  show wpAny _ _ (do if ← isTrue c X.env (eval c X.env) then isTrue a X.env (eval a X.env) else isTrue b X.env (eval b X.env)) _ _ s
  refine wpAny_bind (thn (hc.run pins s σ H _ I h) fun t s1 ⟨H1, I1, q1⟩ => ?_)
  cases t with
  | true => exact ha.run pins s1 σ H1 Q I1 q1
  | false => exact hb.run pins s1 σ H1 Q I1 q1
theorem con_ok {d : D} {c : Const} {k : Nat} {p : Pos} {A0 : Prot} (h : isCon d c = true) : PE X (.Constant c k p) (TEv X.K A0 EA W 1 fun r => .ok d r) := by
  cases c <;> simp only [isCon, Bool.false_eq_true] at h
  · have : d = .none := by cases d <;> simp_all [isNon]
    subst this
    exact te_non
  · cases d <;> simp only [Bool.false_eq_true, beq_iff_eq] at h
    subst h
    exact te_bl
  · cases d <;> simp only [Bool.false_eq_true, decide_eq_true_eq] at h
    subst h
    exact te_int
  · cases d <;> simp only [Bool.false_eq_true, decide_eq_true_eq] at h
    subst h
    exact te_str
theorem pname_eq {e : Expr} {x : Str} (h : pname e x = true) : ∃ p, e = .Name x p := by
  cases e <;> simp only [pname, Bool.false_eq_true, decide_eq_true_eq] at h
  subst h
  exact ⟨_, rfl⟩
theorem tru_and {f g : Env → Out D} : (fun r => tru ((f r).bind fun x r1 => (lift (truthD x) r1).bind fun k r2 => if k then g r2 else .ok x r2)) = fun r => (tru (f r)).bind fun k r1 => if k then tru (g r1) else .ok false r1 := by
  funext r
  cases f r with
  | ok x r1 =>
    simp only [tru, Out.bind]
    cases h : truthD x with
    | none => rfl
    | some k => cases k <;> simp [Cw.lift, Out.bind, h]
  | exc _ _ => rfl
  | bad => rfl
theorem tru_or {f g : Env → Out D} : (fun r => tru ((f r).bind fun x r1 => (lift (truthD x) r1).bind fun k r2 => if k then .ok x r2 else g r2)) = fun r => (tru (f r)).bind fun k r1 => if k then .ok true r1 else tru (g r1) := by
  funext r
  cases f r with
  | ok x r1 =>
    simp only [tru, Out.bind]
    cases h : truthD x with
    | none => rfl
    | some k => cases k <;> simp [Cw.lift, Out.bind, h]
  | exc _ _ => rfl
  | bad => rfl
theorem tru_not {f : Env → Out D} : (fun r => tru ((f r).bind fun x r1 => lift ((truthD x).map fun k => .bool (!k)) r1)) = fun r => (tru (f r)).bind fun k r1 => .ok (!k) r1 := by
  funext r
  cases f r with
  | ok x r1 =>
    simp only [tru, Out.bind]
    cases h : truthD x with
    | none => rfl
    | some k => cases k <;> rfl
  | exc _ _ => rfl
  | bad => rfl
theorem tru_ite {c : Env → Out Bool} {f g : Env → Out D} : (fun r => tru ((c r).bind fun k r1 => if k then f r1 else g r1)) = fun r => (c r).bind fun k r1 => if k then tru (f r1) else tru (g r1) := by
  funext r
  cases c r with
  | ok k r1 => cases k <;> rfl
  | exc _ _ => rfl
  | bad => rfl
theorem tt_ite {A0 : Prot} {a b c : Expr} {f g h : Env → Out Bool} {pos : Pos} (hc : PT X c (TTv X.K A0 EA W f)) (ha : PT X a (TTv X.K A0 EA W g)) (hb : PT X b (TTv X.K A0 EA W h)) :
    PT X (.IfExp c a b pos) (TTv X.K A0 EA W fun r => (f r).bind fun k r1 => if k then g r1 else h r1) := by
  refine PT.imp (pt_ite hc ha hb) fun σ H Q ⟨r, Fs, G, q⟩ => ⟨r, Fs, G, q.bind fun k r1 _ h1 => fun H1 k1 G1 => ?_⟩
  cases k with
  | true =>
    rw [if_pos rfl]
    exact ⟨r1, Fs, G1, (show Pst X.K A0 EA W σ Fs H (g r1) _ from h1).later k1 fun b r2 h2 => fun H' k2 G2 => h2 H' (k1.trans k2) G2⟩
  | false =>
    rw [if_neg Bool.false_ne_true]
    exact ⟨r1, Fs, G1, (show Pst X.K A0 EA W σ Fs H (h r1) _ from h1).later k1 fun b r2 h2 => fun H' k2 G2 => h2 H' (k1.trans k2) G2⟩
theorem bool_pw {op : BoolOp} {es : List Expr} {pos : Pos} {t : TT} (h : PT X (.BoolOp op es pos) t) : PW X (.BoolOp op es pos) t := ⟨fun whole pins s σ H Q I q => h.run pins s σ H Q I q⟩
/-- the rest of an and / or -/
def restB (op : BoolOp) (y : Expr) (ys : List Expr) (p : Pos) : Expr := match ys with
  | [] => y
  | _ => .BoolOp op (y :: ys) p
theorem rest_pe {op : BoolOp} {y : Expr} {ys : List Expr} {p : Pos} {t : TE} (h : PE X (restB op y ys p) t) : PE X (.BoolOp op (y :: ys) p) t := by
  cases ys with
  | nil => exact pe_one h
  | cons z zs => exact h
theorem rest_pw_and {y : Expr} {ys : List Expr} {p : Pos} {t : TT} (h : PT X (restB .And y ys p) t) : PW X (.BoolOp .And (y :: ys) p) t := by
  cases ys with
  | nil => exact pw_and1 h
  | cons z zs => exact bool_pw h
theorem rest_pw_or {y : Expr} {ys : List Expr} {p : Pos} {t : TT} (h : PT X (restB .Or y ys p) t) : PW X (.BoolOp .Or (y :: ys) p) t := by
  cases ys with
  | nil => exact pw_or1 h
  | cons z zs => exact bool_pw h
theorem own_ix {N : List Str} {is : List Nat} : (ownOf N is).map (·.2) = is := by
  unfold ownOf
  rw [List.map_map]
  exact List.map_id is
theorem okTg_of {scope : Scope} {i : Nat} {x : Str} (h : XOk P EA call X sc W) (s : Shared) (H : Hp) (C : Addr) (cl : List (Str × Addr)) (fp : List Addr) (ho : okTg P.N scope i x = true) : TgName (X.blk s H scope (compEnvC scope cl C X.env) fp) i x := by
  unfold okTg at ho
  simp only [Bool.and_eq_true, decide_eq_true_eq] at ho
  have hk : ∀ k, k ≠ .free → scope.names.lookup x = some k → (compEnvC scope cl C X.env).scope.names.lookup x = some k := fun k n e => by
    show (relS scope X.env.scope).names.lookup x = some k
    exact lookup_relS_keep n e
  have h2 := ho.2
  split at h2
  · rename_i e
    exact ⟨by rw [← ho.1]; exact congrArg (·[i]?) h.N, .inl (hk _ (by decide) e), .inr (hk _ (by decide) e)⟩
  · rename_i e
    exact ⟨by rw [← ho.1]; exact congrArg (·[i]?) h.N, .inr (hk _ (by decide) e), .inl (by show (scope.names.lookup x == some .cell) = true; rw [e]; rfl)⟩
  · cases h2
/-- a comprehension, its parts given -/
theorem te_comp {A0 : Prot} {t : Tg} {fi : Env → Out (List D)} {fc : Env → Out Bool} {fe : Env → Out D} {ke : Nat} {scope : Scope} {elt tg iter : Expr} {ifs : List Expr} {pos : Pos} (h : XOk P EA call X sc W)
    (hi : PI X tg iter (TIv X.K A0 EA W fi)) (hb : blkC P.N sc scope (ownOf P.N (tgS t)) = true) (ht : tgIs (okTg P.N scope) t tg = true) (hs : notSet iter = true)
    (hc : ∀ (s : Shared) (H : Hp) (C : Addr) (cl : List (Str × Addr)) (fp : List Addr), PTs (X.blk s H scope (compEnvC scope cl C X.env) fp) ifs (TTy X.K EA fc))
    (he : ∀ (s : Shared) (H : Hp) (C : Addr) (cl : List (Str × Addr)) (fp : List Addr), PE (X.blk s H scope (compEnvC scope cl C X.env) fp) elt (TEy X.K EA ke fe)) :
    PE X (.ListComp elt [⟨tg, iter, ifs, 0⟩] scope pos) (TEv X.K A0 EA W 1 (compF t fi fc fe)) := by
  have ok : BlkOk X.N X.env.scope scope (ownOf P.N (tgS t)) := by rw [h.N, h.sc]; exact blkOk_by hb
  have gs : ∀ (s : Shared) (H : Hp) (C : Addr) (cl : List (Str × Addr)) (fp : List Addr), PG (X.blk s H scope (compEnvC scope cl C X.env) fp) tg (TGv X.K t) := fun s H C cl fp =>
    pg_of (X := X.blk s H scope (compEnvC scope cl C X.env) fp) (by show X.N.Nodup; rw [h.N]; exact h.nd) h.calm (fun i x => okTg_of h s H C cl fp) ht
  refine PE.imp (pe_lc h.calm (by rw [h.N]; exact h.nd) hi ok gs hc he (fold_ok hs _)) fun σ H Q q => ?_
  rw [own_ix]
  exact tv_comp q
theorem te_comp2 {A0 : Prot} {t t1 : Tg} {fi fi1 : Env → Out (List D)} {fc fc1 : Env → Out Bool} {fe : Env → Out D} {ke : Nat} {scope : Scope} {elt tg iter tg1 iter1 : Expr} {ifs ifs1 : List Expr} {pos : Pos} (h : XOk P EA call X sc W)
    (hi : PI X tg iter (TIv X.K A0 EA W fi)) (hb : blkC P.N sc scope (ownOf P.N (tgS t ++ tgS t1)) = true) (ht : tgIs (okTg P.N scope) t tg = true) (ht1 : tgIs (okTg P.N scope) t1 tg1 = true) (hs : notSet iter = true) (hs1 : notSet iter1 = true)
    (hc : ∀ (s : Shared) (H : Hp) (C : Addr) (cl : List (Str × Addr)) (fp : List Addr), PTs (X.blk s H scope (compEnvC scope cl C X.env) fp) ifs (TTy X.K EA fc))
    (hi1 : ∀ (s : Shared) (H : Hp) (C : Addr) (cl : List (Str × Addr)) (fp : List Addr), PI (X.blk s H scope (compEnvC scope cl C X.env) fp) tg1 iter1 (TIy X.K EA fi1))
    (hc1 : ∀ (s : Shared) (H : Hp) (C : Addr) (cl : List (Str × Addr)) (fp : List Addr), PTs (X.blk s H scope (compEnvC scope cl C X.env) fp) ifs1 (TTy X.K EA fc1))
    (he : ∀ (s : Shared) (H : Hp) (C : Addr) (cl : List (Str × Addr)) (fp : List Addr), PE (X.blk s H scope (compEnvC scope cl C X.env) fp) elt (TEy X.K EA ke fe)) :
    PE X (.ListComp elt [⟨tg, iter, ifs, 0⟩, ⟨tg1, iter1, ifs1, 0⟩] scope pos) (TEv X.K A0 EA W 1 (compF2 t fi fc t1 fi1 fc1 fe)) := by
  have ok : BlkOk X.N X.env.scope scope (ownOf P.N (tgS t ++ tgS t1)) := by rw [h.N, h.sc]; exact blkOk_by hb
  have gs : ∀ {t : Tg} {tg : Expr}, tgIs (okTg P.N scope) t tg = true → ∀ (s : Shared) (H : Hp) (C : Addr) (cl : List (Str × Addr)) (fp : List Addr), PG (X.blk s H scope (compEnvC scope cl C X.env) fp) tg (TGv X.K t) := fun ht s H C cl fp =>
    pg_of (X := X.blk s H scope (compEnvC scope cl C X.env) fp) (by show X.N.Nodup; rw [h.N]; exact h.nd) h.calm (fun i x => okTg_of h s H C cl fp) ht
  refine PE.imp (pe_lc2 h.calm (by rw [h.N]; exact h.nd) hi ok (vs1 := tgS t1) (by rw [own_ix]; exact fun i hi => List.mem_append_right _ hi) (gs ht) hc hi1 (gs ht1) hc1 he (fold_ok hs _) (fold_ok hs1)) fun σ H Q q => ?_
  rw [own_ix]
  exact tv_comp2 q

theorem not_and {a b : Bool} (h : (!a && b) = true) : a = false ∧ b = true := by
  cases a <;> simp_all
mutual
theorem ckE_ok (m : ME) {sc : Scope} {e : Expr} {X : Cx} {W : WX} {A0 : Prot} (x : XOk P EA call X sc W) (h : ckE P m sc e = true) (hi : isIt m = false) : PE X e (TEv X.K A0 EA W (frE P m) (evE P.T call m)) := by
  match m with
  | .var i =>
    cases e <;> simp only [ckE, Bool.false_eq_true, Bool.and_eq_true, decide_eq_true_eq] at h
    exact te_var (by rw [x.N]; exact h.1.1) (vis_of x h.1.2) (dbg1 h.2).1 (dbg1 h.2).2
  | .con d =>
    cases e <;> simp only [ckE, Bool.false_eq_true, Bool.and_eq_true] at h
    · exact con_ok h
    · obtain ⟨⟨h1, h2⟩, h3⟩ := h
      split at h3
      · rename_i d' e'
        obtain ⟨v, u, hm, hr, rp, hd⟩ := x.cst _ _ e'
        rw [sameD_eq h3]
        exact te_con (pe_glob (gl_of x h1) hm hr (dbg1 h2).1) rp hd
      · cases h3
  | .tup es =>
    cases e <;> simp only [ckE, Bool.false_eq_true] at h
    exact te_tup (ckEs_ok es x h).1
  | .lst es =>
    cases e <;> simp only [ckE, Bool.false_eq_true] at h
    exact te_lst (ckEs_ok es x h).1
  | .bin op a b =>
    cases e <;> simp only [ckE, Bool.false_eq_true, Bool.and_eq_true, decide_eq_true_eq] at h
    obtain ⟨⟨rfl, h1⟩, h2⟩ := h
    exact te_bin (ckE_ok a x h1.2 (by simpa using h1.1)) (ckE_ok b x h2.2 (by simpa using h2.1))
  | .lrep es b =>
    cases e <;> simp only [ckE, Bool.false_eq_true] at h
    rename_i l o r p
    cases l <;> simp only [Bool.false_eq_true, Bool.and_eq_true, decide_eq_true_eq] at h
    obtain ⟨⟨rfl, h1⟩, h2⟩ := h
    exact te_lrep (ckEs_ok es x h1).1 (ckE_ok b x h2.2 (by simpa using h2.1))
  | .neg a =>
    cases e <;> simp only [ckE, Bool.false_eq_true, Bool.and_eq_true, decide_eq_true_eq] at h
    obtain ⟨rfl, h1⟩ := h
    exact te_neg (ckE_ok a x h1.2 (by simpa using h1.1))
  | .cmp op a b =>
    cases e <;> simp only [ckE, Bool.false_eq_true] at h
    rename_i l os ys p
    match ys, h with
    | [y], h =>
      simp only [Bool.and_eq_true, decide_eq_true_eq] at h
      obtain ⟨⟨⟨rfl, h1⟩, h2⟩, h3⟩ := h
      exact te_cmp (by have := x.hu; omega) (ckE_ok a x h2.2 (by simpa using h2.1)) (ckE_ok b x h3.2 (by simpa using h3.1)) (set_ok h1)
  | .chain o1 o2 a b c =>
    cases e <;> simp only [ckE, Bool.false_eq_true] at h
    rename_i l os ys p
    match ys, h with
    | [y, z], h =>
      simp only [Bool.and_eq_true, decide_eq_true_eq] at h
      obtain ⟨⟨⟨⟨rfl, h1⟩, h2⟩, h3⟩, h4⟩ := h
      exact te_chain (by have := x.hu; omega) (ckE_ok a x h2.2 (by simpa using h2.1)) (ckE_ok b x h3.2 (by simpa using h3.1)) (ckE_ok c x h4.2 (by simpa using h4.1)) (set_ok h1)
  | .and a b =>
    cases e <;> simp only [ckE, Bool.false_eq_true, Bool.and_eq_true, decide_eq_true_eq] at h
    rename_i o xs p
    obtain ⟨rfl, h⟩ := h
    match xs, h with
    | z :: y :: ys, h =>
      simp only [Bool.and_eq_true] at h
      obtain ⟨h1, h2⟩ := h
      exact te_and (ckE_ok a x h1.2 (by simpa using h1.1)) (rest_pe (ys := ys) (te_down (k := frE P b) (j := 0) (by omega) (ckE_ok b (e := restB .And y ys p) x h2.2 (by simpa using h2.1))))
  | .or a b =>
    cases e <;> simp only [ckE, Bool.false_eq_true, Bool.and_eq_true, decide_eq_true_eq] at h
    rename_i o xs p
    obtain ⟨rfl, h⟩ := h
    match xs, h with
    | z :: y :: ys, h =>
      simp only [Bool.and_eq_true] at h
      obtain ⟨h1, h2⟩ := h
      exact te_or (ckE_ok a x h1.2 (by simpa using h1.1)) (rest_pe (ys := ys) (te_down (k := frE P b) (j := 0) (by omega) (ckE_ok b (e := restB .Or y ys p) x h2.2 (by simpa using h2.1))))
  | .not a =>
    cases e <;> simp only [ckE, Bool.false_eq_true, Bool.and_eq_true, decide_eq_true_eq] at h
    obtain ⟨rfl, h1⟩ := h
    exact te_not (ckE_ok a x h1.2 (by simpa using h1.1))
  | .ite c a b =>
    cases e <;> simp only [ckE, Bool.false_eq_true, Bool.and_eq_true] at h
    obtain ⟨⟨h1, h2⟩, h3⟩ := h
    exact te_ite (ckT_ok c x h1.2 (by simpa using h1.1)) (te_down (k := frE P a) (j := frE P (.ite c a b)) (fun z => by simp only [frE] at z; split at z <;> simp_all) (ckE_ok a x h2.2 (by simpa using h2.1)))
      (te_down (k := frE P b) (j := frE P (.ite c a b)) (fun z => by simp only [frE] at z; split at z <;> simp_all) (ckE_ok b x h3.2 (by simpa using h3.1)))
  | .idx a i =>
    cases e <;> simp only [ckE, Bool.false_eq_true, Bool.and_eq_true] at h
    obtain ⟨⟨h1, h2⟩, h3⟩ := h
    exact te_idx (ckE_ok a x h2.2 (by simpa using h2.1)) (ckE_ok i x h3.2 (by simpa using h3.1)) (slice_ok h1)
  | .sidx i b =>
    cases e <;> simp only [ckE, Bool.false_eq_true] at h
    rename_i v s p
    cases v <;> simp only [Bool.false_eq_true, Bool.and_eq_true, decide_eq_true_eq] at h
    obtain ⟨⟨⟨⟨h1, h2⟩, h3⟩, h4⟩, h5⟩ := h
    exact te_sidx (by rw [x.N]; exact h1) (vis_of x h2) (dbg1 h3).1 (dbg1 h3).2 (ckE_ok b x h5.2 (by simpa using h5.1)) (slice_ok h4)
  | .slc a lo hi =>
    cases e <;> simp only [ckE, Bool.false_eq_true] at h
    rename_i v s p
    cases s <;> simp only [Bool.false_eq_true, Bool.and_eq_true] at h
    rename_i l hh st p2
    obtain ⟨⟨⟨h1, h2⟩, h3⟩, h4⟩ := h
    rw [Option.isNone_iff_eq_none] at h1
    subst h1
    exact te_slc (ckE_ok a x h2.2 (by simpa using h2.1)) (ckO_ok lo x h3) (ckO_ok hi x h4)
  | .call f es =>
    cases e <;> simp only [ckE, Bool.false_eq_true] at h
    rename_i v args kws p
    cases v <;> simp only [Bool.false_eq_true, Bool.and_eq_true, decide_eq_true_eq] at h
    rename_i z pz
    obtain ⟨⟨⟨⟨⟨⟨h1, h2⟩, h3⟩, h4⟩, h5⟩, h6⟩, h7⟩ := h
    cases hT : P.T f with
    | none => rw [hT] at h7; cases h7
    | some fn =>
      rw [hT] at h7
      simp only at h7
      cases hj : ioSlots fn.io es with
      | none => rw [hj] at h7; cases h7
      | some js =>
        rw [hj] at h7
        simp only [Bool.and_eq_true, decide_eq_true_eq] at h7
        obtain ⟨⟨⟨h8, h9⟩, h10⟩, h11⟩ := h7
        obtain ⟨k, fa, fd, ps, F, hr, hm, hk, hb⟩ := x.fns _ _ _ h3 hT
        have hkw : kws = [] := by simpa using h4
        subst hkw
        match args, h5, h6, h11 with
        | a0 :: args, _, h6, h11 =>
          have ha := ckAs_ok fn.io 0 es (A0 := A0) (W := W) x h11
          simp only [List.all_cons, Bool.and_eq_true] at h6
          have q := te_call (A0 := A0) (W := W) (pos := p) (p := pz) F hr (gl_of x h1) hm hk hb x.tk hj h8 h9 h10 ha (dbg1 h2).1 h6.1 h6.2
          have e1 : frE P (.call f es) = fn.fresh := by simp only [frE, hT]
          have e2 : evE P.T call (.call f es) = fun r => (evAs P.T call fn.io 0 es r).bind fun ds r1 => match call f ds with
              | .ok d os => if os.length = js.length then .ok d (putMs r1 js os) else .bad
              | .exc x os => if os.length = js.length then .exc x (putMs r1 js os) else .bad
              | .bad => .bad := by
            funext r
            simp only [evE, hT, hj]
            rw [if_neg (by simp [h8])] <;> rfl
          rw [e1, e2]
          exact q
  | .bi b es =>
    cases e <;> simp only [ckE, Bool.false_eq_true, Bool.and_eq_true] at h
    rename_i v args kws p
    obtain ⟨⟨⟨⟨⟨h1, h2⟩, h3⟩, h4⟩, h5⟩, h6⟩ := h
    obtain ⟨pz, rfl⟩ := pname_eq h1
    have hkw : kws = [] := by simpa using h4
    subst hkw
    match args, h5, h6 with
    | a0 :: args, _, h6 =>
      obtain ⟨ha, hs⟩ := ckEs_ok es (A0 := A0) (W := W) x h6
      simp only [List.all_cons, Bool.and_eq_true] at hs
      exact te_bi b x.calm x.hu (gl_of x h2) (x.blt _ h3) ha hs.1 hs.2
  | .isa a ts =>
    cases e <;> simp only [ckE, Bool.false_eq_true, Bool.and_eq_true, decide_eq_true_eq] at h
    rename_i v args kws p
    obtain ⟨⟨⟨⟨⟨⟨h1, h2⟩, h3⟩, h4⟩, h5⟩, h6⟩, h7⟩ := h
    obtain ⟨pz, rfl⟩ := pname_eq h1
    have hkw : kws = [] := by simpa using h4
    subst hkw
    have hty : ∀ t ∈ ts, Gl X (tyS t) ∧ X.mg (tyS t) = none := fun t ht => by
      have := List.all_eq_true.mp h5 t ht
      simp only [Bool.and_eq_true] at this
      exact ⟨gl_of x this.1, x.blt _ this.2⟩
    match args, h7 with
    | [y, z], h7 =>
      simp only [Bool.and_eq_true] at h7
      obtain ⟨⟨h8, h9⟩, h10⟩ := h7
      have ha := ckE_ok a (A0 := A0) (W := W) x h9.2 (by simpa using h9.1)
      cases z <;> simp only [Bool.false_eq_true] at h10
      · match ts, h10, hty with
        | [t], h10, hty =>
          have e := of_decide_eq_true h10
          subst e
          exact te_isa1 (gl_of x h2) (x.blt _ h3) (hty t List.mem_cons_self).1 (hty t List.mem_cons_self).2 ha h8
      · exact te_isaN (gl_of x h2) (x.blt _ h3) ha h8 (pa_tys hty h10) h6
  | .mt _ _ _ => simp [ckE] at h
  | .comp elt t it c =>
    cases e <;> simp only [ckE, Bool.false_eq_true] at h
    rename_i y gs scope p
    match gs, h with
    | [⟨tg, iter, ifs, n⟩], h =>
      simp only [Bool.and_eq_true, decide_eq_true_eq] at h
      obtain ⟨⟨⟨⟨⟨⟨⟨rfl, h1⟩, h2⟩, h3⟩, h4⟩, h5⟩, h6⟩, h7⟩ := h
      exact te_comp x (ckI_ok it x h5 tg (fun z => by simpa [z] using h4)) h2 h3 h1 (fun s H C cl fp => ckC_ok c (x.blk s H scope C cl fp) h6) fun s H C cl fp => tey_of fun A0 => ckE_ok elt (x.blk s H scope C cl fp) h7.2 (by simpa using h7.1)
  | .comp2 elt t it c t1 it1 c1 =>
    cases e <;> simp only [ckE, Bool.false_eq_true] at h
    rename_i y gs scope p
    match gs, h with
    | [⟨tg, iter, ifs, n⟩, ⟨tg1, iter1, ifs1, n1⟩], h =>
      simp only [Bool.and_eq_true, decide_eq_true_eq] at h
      obtain ⟨⟨⟨⟨⟨⟨⟨⟨⟨⟨⟨⟨⟨rfl, rfl⟩, h1⟩, h1'⟩, h2⟩, h3⟩, h3'⟩, h4⟩, h4'⟩, h5⟩, h6⟩, h5'⟩, h6'⟩, h7⟩ := h
      exact te_comp2 x (ckI_ok it x h5 tg (fun z => by simpa [z] using h4)) h2 h3 h3' h1 h1' (fun s H C cl fp => ckC_ok c (x.blk s H scope C cl fp) h6)
        (fun s H C cl fp => tiy_of fun A0 => ckI_ok it1 (x.blk s H scope C cl fp) h5' tg1 (fun z => by simpa [z] using h4'))
        (fun s H C cl fp => ckC_ok c1 (x.blk s H scope C cl fp) h6') fun s H C cl fp => tey_of fun A0 => ckE_ok elt (x.blk s H scope C cl fp) h7.2 (by simpa using h7.1)
  | .rng _ _ => simp [isIt] at hi
  | .enum _ => simp [isIt] at hi
  | .zip _ _ => simp [isIt] at hi
  | .rev _ => simp [isIt] at hi
termination_by (sizeOf m, 0)
theorem ckT_ok (m : ME) {sc : Scope} {e : Expr} {X : Cx} {W : WX} {A0 : Prot} (x : XOk P EA call X sc W) (h : ckE P m sc e = true) (hi : isIt m = false) : PT X e (TTv X.K A0 EA W fun r => tru (evE P.T call m r)) := by
  match m with
  | .cmp op a b =>
    cases e <;> simp only [ckE, Bool.false_eq_true] at h
    rename_i l os ys p
    match ys, h with
    | [y], h =>
      simp only [Bool.and_eq_true, decide_eq_true_eq] at h
      obtain ⟨⟨⟨rfl, h1⟩, h2⟩, h3⟩ := h
      exact tt_cmp (by have := x.hu; omega) (ckE_ok a x h2.2 (by simpa using h2.1)) (ckE_ok b x h3.2 (by simpa using h3.1)) (set_ok h1)
  | .chain o1 o2 a b c =>
    cases e <;> simp only [ckE, Bool.false_eq_true] at h
    rename_i l os ys p
    match ys, h with
    | [y, z], h =>
      simp only [Bool.and_eq_true, decide_eq_true_eq] at h
      obtain ⟨⟨⟨⟨rfl, h1⟩, h2⟩, h3⟩, h4⟩ := h
      exact tt_chain (by have := x.hu; omega) (ckE_ok a x h2.2 (by simpa using h2.1)) (ckE_ok b x h3.2 (by simpa using h3.1)) (ckE_ok c x h4.2 (by simpa using h4.1)) (set_ok h1)
  | .and a b =>
    cases e <;> simp only [ckE, Bool.false_eq_true, Bool.and_eq_true, decide_eq_true_eq] at h
    rename_i o xs p
    obtain ⟨rfl, h⟩ := h
    match xs, h with
    | z :: y :: ys, h =>
      simp only [Bool.and_eq_true] at h
      obtain ⟨h1, h2⟩ := h
      have q := (tt_and (ckT_ok a (A0 := A0) x h1.2 (by simpa using h1.1)) (rest_pw_and (ys := ys) (ckT_ok b (A0 := A0) (e := restB .And y ys p) x h2.2 (by simpa using h2.1)))).pt
      rw [← tru_and] at q
      exact q
  | .or a b =>
    cases e <;> simp only [ckE, Bool.false_eq_true, Bool.and_eq_true, decide_eq_true_eq] at h
    rename_i o xs p
    obtain ⟨rfl, h⟩ := h
    match xs, h with
    | z :: y :: ys, h =>
      simp only [Bool.and_eq_true] at h
      obtain ⟨h1, h2⟩ := h
      have q := (tt_or (ckT_ok a (A0 := A0) x h1.2 (by simpa using h1.1)) (rest_pw_or (ys := ys) (ckT_ok b (A0 := A0) (e := restB .Or y ys p) x h2.2 (by simpa using h2.1)))).pt
      rw [← tru_or] at q
      exact q
  | .not a =>
    cases e <;> simp only [ckE, Bool.false_eq_true, Bool.and_eq_true, decide_eq_true_eq] at h
    obtain ⟨rfl, h1⟩ := h
    have q := tt_not (pos := ‹Pos›) (ckT_ok a (A0 := A0) x h1.2 (by simpa using h1.1))
    rw [← tru_not] at q
    exact q
  | .ite c a b =>
    cases e <;> simp only [ckE, Bool.false_eq_true, Bool.and_eq_true] at h
    obtain ⟨⟨h1, h2⟩, h3⟩ := h
    have q := tt_ite (pos := ‹Pos›) (ckT_ok c (A0 := A0) x h1.2 (by simpa using h1.1)) (ckT_ok a (A0 := A0) x h2.2 (by simpa using h2.1)) (ckT_ok b (A0 := A0) x h3.2 (by simpa using h3.1))
    rw [← tru_ite] at q
    exact q
  | .neg a =>
    have q := ckE_ok (.neg a) (A0 := A0) x h hi
    cases e <;> simp only [ckE, Bool.false_eq_true, Bool.and_eq_true, decide_eq_true_eq] at h
    obtain ⟨rfl, h1⟩ := h
    exact tt_val q fun _ => rfl
  | .var i => exact tt_val (ckE_ok (.var i) x h hi) (by cases e <;> simp only [ckE, Bool.false_eq_true] at h <;> exact fun _ => rfl)
  | .con i => exact tt_val (ckE_ok (.con i) x h hi) (by cases e <;> simp only [ckE, Bool.false_eq_true] at h <;> exact fun _ => rfl)
  | .tup i => exact tt_val (ckE_ok (.tup i) x h hi) (by cases e <;> simp only [ckE, Bool.false_eq_true] at h <;> exact fun _ => rfl)
  | .lst i => exact tt_val (ckE_ok (.lst i) x h hi) (by cases e <;> simp only [ckE, Bool.false_eq_true] at h <;> exact fun _ => rfl)
  | .bin o a b => exact tt_val (ckE_ok (.bin o a b) x h hi) (by cases e <;> simp only [ckE, Bool.false_eq_true] at h <;> exact fun _ => rfl)
  | .lrep a b => exact tt_val (ckE_ok (.lrep a b) x h hi) (by cases e <;> simp only [ckE, Bool.false_eq_true] at h <;> exact fun _ => rfl)
  | .idx a b => exact tt_val (ckE_ok (.idx a b) x h hi) (by cases e <;> simp only [ckE, Bool.false_eq_true] at h <;> exact fun _ => rfl)
  | .sidx a b => exact tt_val (ckE_ok (.sidx a b) x h hi) (by cases e <;> simp only [ckE, Bool.false_eq_true] at h <;> exact fun _ => rfl)
  | .slc a b c => exact tt_val (ckE_ok (.slc a b c) x h hi) (by cases e <;> simp only [ckE, Bool.false_eq_true] at h <;> exact fun _ => rfl)
  | .call a b => exact tt_val (ckE_ok (.call a b) x h hi) (by cases e <;> simp only [ckE, Bool.false_eq_true] at h <;> exact fun _ => rfl)
  | .bi a b => exact tt_val (ckE_ok (.bi a b) x h hi) (by cases e <;> simp only [ckE, Bool.false_eq_true] at h <;> exact fun _ => rfl)
  | .isa a b => exact tt_val (ckE_ok (.isa a b) x h hi) (by cases e <;> simp only [ckE, Bool.false_eq_true] at h <;> exact fun _ => rfl)
  | .mt _ _ _ => simp [ckE] at h
  | .comp a b c d => exact tt_val (ckE_ok (.comp a b c d) x h hi) (by cases e <;> simp only [ckE, Bool.false_eq_true] at h <;> exact fun _ => rfl)
  | .comp2 a b c d e1 f g => exact tt_val (ckE_ok (.comp2 a b c d e1 f g) x h hi) (by cases e <;> simp only [ckE, Bool.false_eq_true] at h <;> exact fun _ => rfl)
  | .rng _ _ => simp [isIt] at hi
  | .enum _ => simp [isIt] at hi
  | .zip _ _ => simp [isIt] at hi
  | .rev _ => simp [isIt] at hi
termination_by (sizeOf m, 1)
theorem ckI_ok (m : ME) {sc : Scope} {e : Expr} {X : Cx} {W : WX} {A0 : Prot} (x : XOk P EA call X sc W) (h : ckE P m sc e = true) (tg : Expr) (ht : tupIt m = true → isTupE tg = true) :
    PI X tg e (TIv X.K A0 EA W fun r => (evE P.T call m r).bind fun x r1 => lift (itemsD x) r1) := by
  by_cases hi : isIt m = false
  · exact ti_seq (ckE_ok m x h hi)
  · match m with
    | .rng a b =>
      cases e <;> simp only [ckE, Bool.false_eq_true, Bool.and_eq_true] at h
      rename_i v args kws p
      obtain ⟨⟨⟨⟨h1, h2⟩, h3⟩, h4⟩, h5⟩ := h
      obtain ⟨pz, rfl⟩ := pname_eq h1
      have hkw : kws = [] := by simpa using h4
      subst hkw
      match args, h5 with
      | [z], h5 =>
        simp only [Bool.and_eq_true] at h5
        obtain ⟨⟨h6, h7⟩, h8⟩ := h5
        have q := ti_rng1 (tg := tg) (pos := p) (p := pz) (gl_of x h2) (x.blt _ h3) (ckE_ok b (A0 := A0) (W := W) x h8.2 (by simpa using h8.1)) h7
        split at h6
        · have e := of_decide_eq_true h6
          subst e
          exact q
        · cases h6
      | [y, z], h5 =>
        simp only [Bool.and_eq_true] at h5
        obtain ⟨⟨⟨h6, h7⟩, h8⟩, h9⟩ := h5
        exact ti_rng2 (gl_of x h2) (x.blt _ h3) (ckE_ok a x h8.2 (by simpa using h8.1)) (ckE_ok b x h9.2 (by simpa using h9.1)) h6 h7
    | .enum a =>
      cases e <;> simp only [ckE, Bool.false_eq_true, Bool.and_eq_true] at h
      rename_i v args kws p
      obtain ⟨⟨⟨⟨h1, h2⟩, h3⟩, h4⟩, h5⟩ := h
      obtain ⟨pz, rfl⟩ := pname_eq h1
      have hkw : kws = [] := by simpa using h4
      subst hkw
      have ht' := ht rfl
      cases tg <;> simp only [isTupE, Bool.false_eq_true] at ht'
      match args, h5 with
      | [z], h5 =>
        simp only [Bool.and_eq_true] at h5
        exact ti_enum (gl_of x h2) (x.blt _ h3) (ckE_ok a x h5.2.2 (by simpa using h5.2.1)) h5.1
    | .zip a b =>
      cases e <;> simp only [ckE, Bool.false_eq_true, Bool.and_eq_true] at h
      rename_i v args kws p
      obtain ⟨⟨⟨⟨h1, h2⟩, h3⟩, h4⟩, h5⟩ := h
      obtain ⟨pz, rfl⟩ := pname_eq h1
      have hkw : kws = [] := by simpa using h4
      subst hkw
      have ht' := ht rfl
      cases tg <;> simp only [isTupE, Bool.false_eq_true] at ht'
      match args, h5 with
      | [y, z], h5 =>
        simp only [Bool.and_eq_true] at h5
        obtain ⟨⟨⟨h6, h7⟩, h8⟩, h9⟩ := h5
        exact ti_zip (gl_of x h2) (x.blt _ h3) (ckE_ok a x h8.2 (by simpa using h8.1)) (ckE_ok b x h9.2 (by simpa using h9.1)) h6 h7
    | .rev a =>
      cases e <;> simp only [ckE, Bool.false_eq_true, Bool.and_eq_true] at h
      rename_i v args kws p
      obtain ⟨⟨⟨⟨h1, h2⟩, h3⟩, h4⟩, h5⟩ := h
      obtain ⟨pz, rfl⟩ := pname_eq h1
      have hkw : kws = [] := by simpa using h4
      subst hkw
      match args, h5 with
      | [z], h5 =>
        simp only [Bool.and_eq_true] at h5
        exact ti_rev (gl_of x h2) (x.blt _ h3) (ckE_ok a x h5.2.2 (by simpa using h5.2.1)) h5.1
    | .var _ | .con _ | .tup _ | .lst _ | .bin _ _ _ | .lrep _ _ | .neg _ | .cmp _ _ _ | .chain _ _ _ _ _ | .and _ _ | .or _ _ | .not _ | .ite _ _ _ | .idx _ _ | .sidx _ _ | .slc _ _ _ | .call _ _ | .bi _ _ | .isa _ _ | .mt _ _ _ | .comp _ _ _ _ | .comp2 _ _ _ _ _ _ _ => exact absurd rfl hi
termination_by (sizeOf m, 1)
theorem ckEs_ok (ms : List ME) {sc : Scope} {es : List Expr} {X : Cx} {W : WX} {A0 : Prot} (x : XOk P EA call X sc W) (h : ckEs P ms sc es = true) : PA X es (TAv X.K A0 EA W (evEs P.T call ms)) ∧ es.all notStar = true := by
  match ms with
  | [] =>
    cases es <;> simp only [ckEs, List.isEmpty_nil, List.isEmpty_cons, Bool.false_eq_true] at h
    exact ⟨ta_nil, rfl⟩
  | m :: ms =>
    cases es with
    | nil => simp only [ckEs, Bool.false_eq_true] at h
    | cons e es =>
      simp only [ckEs, Bool.and_eq_true] at h
      obtain ⟨⟨h1, h2⟩, h3⟩ := h
      obtain ⟨q1, q2⟩ := ckEs_ok ms (A0 := A0) (W := W) x h3
      exact ⟨ta_cons (ckE_ok m x h2.2 (by simpa using h2.1)) q1 (star_cons h1), by simp [h1, q2]⟩
termination_by (sizeOf ms, 2)
theorem ckAs_ok (io : List Nat) (n : Nat) (ms : List ME) {sc : Scope} {es : List Expr} {X : Cx} {W : WX} {A0 : Prot} (x : XOk P EA call X sc W) (h : ckAs P io n ms sc es = true) : PA X es (TAio X.K A0 EA W io n ms (evAs P.T call io n ms)) := by
  match ms with
  | [] =>
    cases es <;> simp only [ckAs, List.isEmpty_nil, List.isEmpty_cons, Bool.false_eq_true] at h
    exact tio_nil
  | m :: ms =>
    cases es with
    | nil => simp only [ckAs, Bool.false_eq_true] at h
    | cons e es =>
      simp only [ckAs, Bool.and_eq_true] at h
      obtain ⟨h1, h3⟩ := h
      have q := ckAs_ok io (n + 1) ms (A0 := A0) (W := W) x h3
      by_cases hc : io.contains n = true
      · rw [if_pos hc] at h1
        cases m <;> simp only [Bool.false_eq_true] at h1
        cases e <;> simp only [Bool.false_eq_true, Bool.and_eq_true, decide_eq_true_eq] at h1
        have e1 : ∀ j, evAs P.T call io n (.var j :: ms) = fun r => (lift (getM r j) r).bind fun _ r0 => (evAs P.T call io (n + 1) ms r0).bind fun ds r2 => match getM r2 j with
            | some d => .ok (d :: ds) r2
            | none => .bad := fun j => by
          funext r
          simp only [evAs, hc, if_true] <;> rfl
        rw [e1]
        exact tio_io hc (by rw [x.N]; exact h1.1.1) (vis_of x h1.1.2) (dbg1 h1.2).1 (dbg1 h1.2).2 q
      · rw [if_neg hc] at h1
        simp only [Bool.and_eq_true] at h1
        obtain ⟨h4, h5⟩ := h1
        have e1 : evAs P.T call io n (m :: ms) = fun r => (evE P.T call m r).bind fun d r1 => (evAs P.T call io (n + 1) ms r1).bind fun ds r2 => .ok (d :: ds) r2 := by
          funext r
          simp only [evAs, hc, if_false, Bool.false_eq_true]
        rw [e1]
        exact tio_cons (by simpa using hc) (ckE_ok m x h5.2 (by simpa using h5.1)) q h4
termination_by (sizeOf ms, 2)
theorem ckO_ok (m : Option ME) {sc : Scope} {e : Option Expr} {X : Cx} {W : WX} {A0 : Prot} (x : XOk P EA call X sc W) (h : ckO P m sc e = true) : PO X e (TOv X.K A0 EA W (evO P.T call m)) := by
  match m with
  | none =>
    cases e <;> simp only [ckO, Option.isNone_none, Option.isNone_some, Bool.false_eq_true] at h
    exact to_none
  | some m =>
    cases e <;> simp only [ckO, Bool.false_eq_true, Bool.and_eq_true] at h
    exact to_some (ckE_ok m x h.2 (by simpa using h.1))
termination_by (sizeOf m, 2)
theorem ckC_ok (m : Option ME) {sc : Scope} {es : List Expr} {X : Cx} (x : XOk P EA call X sc WNo) (h : ckC P m sc es = true) : PTs X es (TTy X.K EA (evC P.T call m)) := by
  match m with
  | none =>
    cases es <;> simp only [ckC, List.isEmpty_nil, List.isEmpty_cons, Bool.false_eq_true] at h
    exact tty_nil
  | some m =>
    match es, h with
    | [e], h =>
      simp only [ckC, Bool.and_eq_true] at h
      exact tty_of fun A0 => ckT_ok m x h.2 (by simpa using h.1)
termination_by (sizeOf m, 2)
end
theorem ckR_ok {a b : ME} {sc : Scope} {e : Expr} {X : Cx} {W : WX} {A0 : Prot} (x : XOk P EA call X sc W) (h : ckE P (.rng a b) sc e = true) (tg : Expr) :
    PI X tg e (TIr X.K A0 EA W fun r => (evE P.T call (.rng a b) r).bind fun x r1 => lift (itemsD x) r1) := by
  cases e <;> simp only [ckE, Bool.false_eq_true, Bool.and_eq_true] at h
  rename_i v args kws p
  obtain ⟨⟨⟨⟨h1, h2⟩, h3⟩, h4⟩, h5⟩ := h
  obtain ⟨pz, rfl⟩ := pname_eq h1
  have hkw : kws = [] := by simpa using h4
  subst hkw
  match args, h5 with
  | [z], h5 =>
    simp only [Bool.and_eq_true] at h5
    obtain ⟨⟨h6, h7⟩, h8⟩ := h5
    have q := ti_rngA (tg := tg) (pos := p) (p := pz) (gl_of x h2) (x.blt _ h3) (ckE_ok b (A0 := A0) (W := W) x h8.2 (by simpa using h8.1)) h7
    split at h6
    · have e := of_decide_eq_true h6
      subst e
      exact q
    · cases h6
  | [y, z], h5 =>
    simp only [Bool.and_eq_true] at h5
    obtain ⟨⟨⟨h6, h7⟩, h8⟩, h9⟩ := h5
    exact ti_rngB (gl_of x h2) (x.blt _ h3) (ckE_ok a x h8.2 (by simpa using h8.1)) (ckE_ok b x h9.2 (by simpa using h9.1)) h6 h7
end
end Cw
end

section
namespace Cw
open PySem PySem.Spec PyProof.Rows L2

section
variable {K : Fr} {A0 : Prot} {σ σ' : L2.St} {H H' : Hp} {r r' : Env} {Fs Fs' : List (Option Addr)}
theorem OwnL.rep {S S' : Addr → Prop} {a : Addr} {d : D} (h : OwnL K H S a d) (n : ¬ S' a) (m : ∀ x, S' x → S x) : Rep K H S' (.ref a) d := by
  obtain ⟨xs, ds, rfl, e, q⟩ := h
  exact .lst (.inl ⟨.inl e, n⟩) (q.mono fun x z => .inl (m x z))
/-- an own list becomes a value -/
theorem Good.frz1 (G : Good K A0 σ H r Fs) {i k : Nat} {d : D} (hi : r[i]? = some (.own k d)) : Good K A0 σ H (r.set i (.val d)) (Fs.set i none) where
  len := by simp [G.len]
  slen := by simp [G.slen]
  val := fun j e h => by
    rcases set_get h with ⟨rfl, hh⟩ | ⟨ne, h⟩
    · cases hh
      obtain ⟨_, a, h1, h2, h3, h4⟩ := G.own i k d hi
      refine ⟨_, h2, h4.rep (fun z => ?_) fun x z => Sv_set z⟩
      rcases z with z | z
      · exact h3 z
      · obtain ⟨j, hj⟩ := List.mem_iff_getElem?.mp z
        rcases set_get hj with ⟨_, e⟩ | ⟨ne, hj⟩
        · cases e
        · exact ne (G.inj _ _ _ h1 hj)
    · obtain ⟨w, h1, h2⟩ := G.val j e h
      exact ⟨w, h1, h2.mono fun a z => .inl (Sv_set z)⟩
  own := fun j k e h => by
    rcases set_get h with ⟨rfl, hh⟩ | ⟨ne, h⟩
    · cases hh
    · obtain ⟨e1, a, h1, h2, h3, h4⟩ := G.own j k e h
      exact ⟨e1, a, by rw [List.getElem?_set_ne ne]; exact h1, h2, h3, h4.mono fun a z => Sv_set z⟩
  chg := fun j e h => by
    rcases set_get h with ⟨rfl, hh⟩ | ⟨ne, h⟩
    · cases hh
    · obtain ⟨a, h1, h2, h3, h4⟩ := G.chg j e h
      exact ⟨a, by rw [List.getElem?_set_ne ne]; exact h1, h2, h3, h4.mono fun a z => Sv_set z⟩
  prt := fun j e h => by
    rcases set_get h with ⟨rfl, hh⟩ | ⟨ne, h⟩
    · cases hh
    · obtain ⟨a, h1, h2, h3⟩ := G.prt j e h
      exact ⟨a, h1, h2, h3.mono fun a z => Sv_set z⟩
  pal := fun a h => ⟨fun z => (G.pal a h).1 (inF_set z), (G.pal a h).2⟩
  inj := fun j k a h1 h2 => by
    rcases set_get h1 with ⟨_, h⟩ | ⟨_, h1⟩
    · cases h
    · rcases set_get h2 with ⟨_, h⟩ | ⟨_, h2⟩
      · cases h
      · exact G.inj j k a h1 h2
  emp := fun j a h => by
    rcases set_get h with ⟨_, h⟩ | ⟨ne, h⟩
    · cases h
    · rw [List.getElem?_set_ne ne]
      exact G.emp j a h
  al := G.al
/-- fewer places of our own -/
def Less (Fs' Fs : List (Option Addr)) : Prop := ∀ (i : Nat) (a : Addr), Fs'[i]? = some (some a) → Fs[i]? = some (some a)
theorem Less.refl : Less Fs Fs := fun _ _ h => h
theorem Less.trans {Fs'' : List (Option Addr)} (h : Less Fs'' Fs') (g : Less Fs' Fs) : Less Fs'' Fs := fun i a e => g i a (h i a e)
theorem Less.mem (h : Less Fs' Fs) {a : Addr} (z : inF Fs' a) : inF Fs a := by
  obtain ⟨i, hi⟩ := List.mem_iff_getElem?.mp z
  exact List.mem_of_getElem? (h i a hi)
theorem less_set {i : Nat} : Less (Fs.set i none) Fs := fun j a h => by
  rcases set_get h with ⟨_, e⟩ | ⟨_, h⟩
  · cases e
  · exact h
theorem Good.frz : ∀ {is : List Nat} {r : Env} {Fs : List (Option Addr)}, Good K A0 σ H r Fs → ∃ Fs', Good K A0 σ H (frz r is) Fs' ∧ Less Fs' Fs
  | [], r, Fs, G => ⟨Fs, G, Less.refl⟩
  | i :: is, r, Fs, G => by
    unfold Cw.frz
    split
    · rename_i k d e
      obtain ⟨Fs', G', l⟩ := (G.frz1 e).frz (is := is)
      exact ⟨Fs', G', l.trans less_set⟩
    · exact G.frz
def noF (Fs : List (Option Addr)) : List (Option Addr) := Fs.map fun _ => none
theorem inF_no {a : Addr} : ¬ inF (noF Fs) a := fun h => by
  obtain ⟨o, _, e⟩ := List.mem_map.mp h
  cases e
theorem noF_get {i : Nat} {a : Addr} : (noF Fs)[i]? ≠ some (some a) := fun h => inF_no (List.mem_of_getElem? h)
/-- all lists as values -/
theorem Good.frzA (G : Good K A0 σ H r Fs) : Good K ⟨fun a => A0 a ∧ ¬ inF Fs a, fun _ => False⟩ σ H (frzA r) (noF Fs) := by
  have sub : ∀ x, Sv ⟨fun a => A0 a ∧ ¬ inF Fs a, fun _ => False⟩ (noF Fs) x → Sv A0 Fs x := fun x z => z.elim (fun z => .inl z.1) fun z => (inF_no z).elim
  have nn : ∀ x, inF Fs x → ¬ Sv ⟨fun a => A0 a ∧ ¬ inF Fs a, fun _ => False⟩ (noF Fs) x := fun x h z => z.elim (fun z => z.2 h) inF_no
  have at_ : ∀ i : Nat, (Cw.frzA r)[i]? = (r[i]?).map frzS := fun i => List.getElem?_map ..
  refine ⟨?_, ?_, fun i d e => ?_, fun i k d e => ?_, fun i d e => ?_, fun i d e => ?_, fun a h => h.elim, fun i j a h => (noF_get h).elim, fun i a h => (noF_get h).elim, fun a h => G.al a h.1⟩
  · simp [noF, Cw.frzA, G.len]
  · simp [Cw.frzA, G.slen]
  all_goals
    rw [at_] at e
    cases q : r[i]? with
    | none => rw [q] at e; cases e
    | some x => ?_
  · rw [q] at e
    cases x <;> simp only [frzS, prtS, Option.map_some, Option.some.injEq, Slot.val.injEq, reduceCtorEq] at e
    · subst e
      obtain ⟨v, h1, h2⟩ := G.val i _ q
      exact ⟨v, h1, h2.mono fun a z => .inl (sub a z)⟩
    · subst e
      obtain ⟨_, a, h1, h2, h3, h4⟩ := G.own i _ _ q
      exact ⟨_, h2, h4.rep (nn a (List.mem_of_getElem? h1)) sub⟩
    · subst e
      obtain ⟨a, h1, h2, h3, h4⟩ := G.chg i _ q
      exact ⟨_, h2, h4.rep (nn a (List.mem_of_getElem? h1)) sub⟩
  all_goals
    rw [q] at e
    cases x <;> cases e
/-- all lists to be looked into -/
theorem Good.prtA (G : Good K A0 σ H r Fs) : Good K ⟨Sv A0 Fs, fun a => A0.p a ∨ inF Fs a⟩ σ H (prtA r) (noF Fs) := by
  have sub : ∀ x, Sv ⟨Sv A0 Fs, fun a => A0.p a ∨ inF Fs a⟩ (noF Fs) x → Sv A0 Fs x := fun x z => z.elim id fun z => (inF_no z).elim
  have at_ : ∀ i : Nat, (Cw.prtA r)[i]? = (r[i]?).map prtS := fun i => List.getElem?_map ..
  refine ⟨?_, ?_, fun i d e => ?_, fun i k d e => ?_, fun i d e => ?_, fun i d e => ?_, fun a h => ⟨inF_no, h.elim (fun h => (G.pal a h).2) fun h => G.alS a (.inr h)⟩, fun i j a h => (noF_get h).elim, fun i a h => (noF_get h).elim, G.alS⟩
  · simp [noF, Cw.prtA, G.len]
  · simp [Cw.prtA, G.slen]
  all_goals
    rw [at_] at e
    cases q : r[i]? with
    | none => rw [q] at e; cases e
    | some x => ?_
  · rw [q] at e
    cases x <;> simp only [frzS, prtS, Option.map_some, Option.some.injEq, Slot.val.injEq, reduceCtorEq] at e
    subst e
    obtain ⟨v, h1, h2⟩ := G.val i _ q
    exact ⟨v, h1, h2.mono fun a z => .inl (sub a z)⟩
  · rw [q] at e
    cases x <;> cases e
  · rw [q] at e
    cases x <;> cases e
  · rw [q] at e
    cases x <;> simp only [frzS, prtS, Option.map_some, Option.some.injEq, Slot.prt.injEq, reduceCtorEq] at e
    · subst e
      obtain ⟨_, a, h1, h2, h3, h4⟩ := G.own i _ _ q
      exact ⟨_, h2, .inr (List.mem_of_getElem? h1), h4.mono sub⟩
    · subst e
      obtain ⟨a, h1, h2, h3, h4⟩ := G.chg i _ q
      exact ⟨_, h2, .inr (List.mem_of_getElem? h1), h4.mono sub⟩
    · subst e
      obtain ⟨a, h1, h2, h3⟩ := G.prt i _ q
      exact ⟨a, h1, .inl h2, h3.mono sub⟩
/-- a new place, the rest as it was -/
theorem Good.addK (G : Good K A0 σ H r Fs) {p : Addr} (hp : H p = none) (kp : Keep (fun _ => False) H H') (hp' : H' p ≠ none) : Good K (A0.add p) σ H' r Fs := by
  have mn : ∀ a, Sv (A0.add p) Fs a → Sv A0 Fs a ∨ H a = none := fun a h => by
    rcases h with (h | rfl) | h
    · exact .inl (.inl h)
    · exact .inr hp
    · exact .inl (.inr h)
  have ow : ∀ {a d}, OwnL K H (Sv A0 Fs) a d → OwnL K H' (Sv (A0.add p) Fs) a d := fun {a d} ⟨xs, ds, e, h1, h2⟩ =>
    ⟨xs, ds, e, kp.1 _ _ h1 fun z => z, (h2.mono mn).keep kp fun _ z => z.elim⟩
  refine ⟨G.len, G.slen, fun i d e => ?_, fun i k' d e => ?_, fun i d e => ?_, fun i d e => let ⟨a, h1, h2, q⟩ := G.prt i d e; ⟨a, h1, h2, ow q⟩, fun a h => ⟨(G.pal a h).1, kp.2 a (G.pal a h).2⟩, G.inj, G.emp, fun a h => ?_⟩
  · obtain ⟨v, h, q⟩ := G.val i d e
    exact ⟨v, h, (q.mono mn).keep kp fun _ z => z.elim⟩
  · obtain ⟨ek, a, h1, h2, h3, q⟩ := G.own i k' d e
    refine ⟨ek, a, h1, h2, fun z => ?_, ow q⟩
    rcases z with z | rfl
    · exact h3 z
    · obtain ⟨xs, e'⟩ := G.ownAt h1
      rw [hp] at e'; cases e'
  · obtain ⟨a, h1, h2, h3, q⟩ := G.chg i d e
    exact ⟨a, h1, h2, .inl h3, ow q⟩
  · rcases h with h | rfl
    · exact kp.2 a (G.al a h)
    · exact hp'
theorem mixE_get : ∀ {r q : Env} {i : Nat}, r.length = q.length → (mixE r q)[i]? = match r[i]? with
    | some (.val d) => some (.val d)
    | some .non => some .non
    | some (.prt d) => some (.prt d)
    | _ => q[i]?
  | [], [], i, _ => by simp [mixE]
  | x :: r, y :: q, 0, h => by cases x <;> simp [mixE]
  | x :: r, y :: q, i + 1, h => by
    have ih := mixE_get (r := r) (q := q) (i := i) (by simpa using h)
    cases x <;> simpa [mixE] using ih
  | [], _ :: _, _, h => by simp at h
  | _ :: _, [], _, h => by simp at h
theorem mixE_len : ∀ {r q : Env}, r.length = q.length → (mixE r q).length = q.length
  | [], [], _ => rfl
  | x :: r, y :: q, h => by
    have ih := mixE_len (r := r) (q := q) (by simpa using h)
    cases x <;> simp [mixE, ih]
  | [], _ :: _, h => by simp at h
  | _ :: _, [], h => by simp at h
theorem shal_items {ds : List D} (h : shal (.list ds) = true) : imm.immAll ds = true := by
  simp only [shal] at h
  induction ds with
  | nil => rfl
  | cons d ds ih =>
    simp only [List.all_cons, Bool.and_eq_true] at h
    simp [imm.immAll, h.1, ih h.2]
/-- values as they were, lists as they are, apart from a new place p (its lists have only unchangeable items) -/
theorem Good.mix (G : Good K A0 σ H r Fs) (G' : Good K A0 σ H' r' Fs) (kp : Keep (inF Fs) H H') (hs : shalE r' = true) {p : Addr} (hp : H p = none) {xs : List V} (hp' : H' p = some (.lst xs)) :
    Good K (A0.add p) σ H' (mixE r r') Fs := by
  have hl : r.length = r'.length := by rw [← G.len, G'.len]
  have mn : ∀ a, Sv (A0.add p) Fs a → Sv A0 Fs a ∨ H a = none := fun a h => by
    rcases h with (h | rfl) | h
    · exact .inl (.inl h)
    · exact .inr hp
    · exact .inl (.inr h)
  have sh : ∀ {i : Nat} {k : Nat} {d : D}, (r'[i]? = some (.own k d) ∨ r'[i]? = some (.mut d)) → shal d = true := fun {i k d} h => by
    rcases h with h | h <;> exact List.all_eq_true.mp hs _ (List.mem_of_getElem? h)
  have ow : ∀ {a d}, shal d = true → OwnL K H' (Sv A0 Fs) a d → OwnL K H' (Sv (A0.add p) Fs) a d := fun {a d} hd ⟨ys, ds, e, h1, h2⟩ => by
    subst e
    refine ⟨ys, ds, rfl, h1, h2.imm (shal_items hd) fun a z => ?_⟩
    rcases z with (z | rfl) | z
    · exact .inl (.inl z)
    · exact .inr ⟨xs, hp'⟩
    · exact .inl (.inr z)
  refine ⟨?_, ?_, fun i d e => ?_, fun i k' d e => ?_, fun i d e => ?_, fun i d e => ?_, fun a h => G'.pal a h, G.inj, fun i a h => ?_, fun a h => ?_⟩
  · rw [mixE_len hl, G'.len]
  · rw [mixE_len hl, G'.slen]
  · rw [mixE_get hl] at e
    split at e
    · cases e
      rename_i q
      obtain ⟨v, h, q'⟩ := G.val i d q
      refine ⟨v, h, (q'.mono (S' := fun a => Sv A0 Fs a ∨ Sv (A0.add p) Fs a) fun a z => z.elim .inl (mn a)).keep kp (fun a z => .inl (.inr z)) |>.mono fun a z => .inl (.inr z)⟩
    · cases e
    · cases e
    · rename_i n1 n2 n3
      exfalso
      cases q : r[i]? with
      | none =>
        rw [List.getElem?_eq_none_iff] at q
        rw [List.getElem?_eq_none (by omega)] at e; cases e
      | some x =>
        cases x with
        | non => exact n2 q
        | val d => exact n1 _ q
        | prt d => exact n3 _ q
        | own k d0 =>
          obtain ⟨_, a, h1, _⟩ := G.own i k d0 q
          rcases G'.emp i a h1 with ⟨d', z⟩ | ⟨d', z⟩ <;> (rw [z] at e; cases e)
        | «mut» d0 =>
          obtain ⟨a, h1, _⟩ := G.chg i d0 q
          rcases G'.emp i a h1 with ⟨d', z⟩ | ⟨d', z⟩ <;> (rw [z] at e; cases e)
  · rw [mixE_get hl] at e
    split at e <;> first | cases e | skip
    obtain ⟨ek, a, h1, h2, h3, h4⟩ := G'.own i k' d e
    refine ⟨ek, a, h1, h2, fun z => ?_, ow (sh (.inl e)) h4⟩
    rcases z with z | rfl
    · exact h3 z
    · obtain ⟨ys, e'⟩ := G.ownAt h1
      rw [hp] at e'; cases e'
  · rw [mixE_get hl] at e
    split at e <;> first | cases e | skip
    obtain ⟨a, h1, h2, h3, h4⟩ := G'.chg i d e
    exact ⟨a, h1, h2, .inl h3, ow (sh (k := 0) (.inr e)) h4⟩
  · rw [mixE_get hl] at e
    split at e
    · cases e
    · cases e
    · cases e
      rename_i q
      obtain ⟨a, h1, h2, ys, ds, e1, e2, e3⟩ := G.prt i d q
      exact ⟨a, h1, h2, ys, ds, e1, kp.1 _ _ e2 (G.pal a h2).1, (e3.mono (S' := fun a => Sv A0 Fs a ∨ Sv (A0.add p) Fs a) fun a z => z.elim .inl (mn a)).keep kp (fun a z => .inl (.inr z)) |>.mono fun a z => .inl (.inr z)⟩
    · rename_i n1 n2 n3
      exfalso
      cases q : r[i]? with
      | none =>
        rw [List.getElem?_eq_none_iff] at q
        rw [List.getElem?_eq_none (by omega)] at e; cases e
      | some x =>
        cases x with
        | non => exact n2 q
        | val d => exact n1 _ q
        | prt d => exact n3 _ q
        | own k d0 =>
          obtain ⟨_, a, h1, _⟩ := G.own i k d0 q
          rcases G'.emp i a h1 with ⟨d', z⟩ | ⟨d', z⟩ <;> (rw [z] at e; cases e)
        | «mut» d0 =>
          obtain ⟨a, h1, _⟩ := G.chg i d0 q
          rcases G'.emp i a h1 with ⟨d', z⟩ | ⟨d', z⟩ <;> (rw [z] at e; cases e)
  · rw [mixE_get hl]
    have g := G.emp i a h
    have g' := G'.emp i a h
    rcases g with ⟨d, q⟩ | ⟨d, q⟩ <;> (rw [q]; exact g')
  · rcases h with h | rfl
    · exact G'.al a h
    · rw [hp']; exact fun z => nomatch z
end
end Cw
end

section
namespace Cw
open PySem PySem.Spec PyProof.Rows L2

structure Chn (A0 : Prot) (H H' : Hp) (Fs Fs' : List (Option Addr)) : Prop where
  kp : Keep (inF Fs) H H'
  nw : ∀ a, inF Fs' a → inF Fs a ∨ H a = none
  mt : ∀ (i : Nat) a, Fs'[i]? = some (some a) → A0 a → Fs[i]? = some (some a)
section
variable {K : Fr} {A0 : Prot} {EA : EAt} {W : WX} {σ : L2.St} {H H' H1 H2 : Hp} {r r' : Env} {Fs Fs' Fs1 Fs2 : List (Option Addr)}
theorem Chn.refl : Chn A0 H H Fs Fs := ⟨Keep.refl, fun _ h => .inl h, fun _ _ h _ => h⟩
theorem Chn.trans (h : Chn A0 H H1 Fs Fs1) (g : Chn A0 H1 H2 Fs1 Fs2) : Chn A0 H H2 Fs Fs2 where
  kp := ⟨fun a o e n => g.kp.1 a o (h.kp.1 a o e n) fun z => (h.nw a z).elim n (fun z => by rw [e] at z; cases z), fun a e => g.kp.2 a (h.kp.2 a e)⟩
  nw := fun a z => (g.nw a z).elim (h.nw a) fun z => .inr (by
    cases q : H a with
    | none => rfl
    | some o => exact absurd z (h.kp.2 a (by rw [q]; exact fun z => nomatch z)))
  mt := fun i a z y => h.mt i a (g.mt i a z y) y
theorem Chn.less (l : Less Fs' Fs) (k : Keep (inF Fs) H H') : Chn A0 H H' Fs Fs' := ⟨k, fun a z => .inl (l.mem z), fun i a z _ => l i a z⟩
theorem Chn.keep (k : Keep (inF Fs) H H') : Chn A0 H H' Fs Fs := Chn.less Less.refl k
def PMv (K : Fr) (A0 : Prot) (EA : EAt) (W : WX) {α : Type} (σ : L2.St) (Fs : List (Option Addr)) (H : Hp) (o : Out α) (R : α → Env → Prop) : Prop :=
  match o with
  | .ok a r' => R a r'
  | .exc x r' => ∀ cls dx H' Fs', Chn A0 H H' Fs Fs' → Good K A0 σ H' r' Fs' → EA x cls dx H' → W cls dx σ H'
  | .bad => False
theorem PMv.bind {α β : Type} {o : Out α} {g : α → Env → Out β} {R : β → Env → Prop} {R' : α → Env → Prop} (h : PMv K A0 EA W σ Fs H (o.bind g) R) (hR : ∀ a r', o = .ok a r' → PMv K A0 EA W σ Fs H (g a r') R → R' a r') : PMv K A0 EA W σ Fs H o R' := by
  cases o with
  | ok a r' => exact hR a r' rfl h
  | exc x r' => exact h
  | bad => exact h
theorem PMv.later {α : Type} {o : Out α} {R R' : α → Env → Prop} (h : PMv K A0 EA W σ Fs H o R) (k : Chn A0 H H' Fs Fs') (hR : ∀ a r', o = .ok a r' → R a r' → R' a r') : PMv K A0 EA W σ Fs' H' o R' := by
  cases o with
  | ok a r' => exact hR a r' rfl h
  | exc x r' => exact fun cls dx H2 Fs2 k2 g e => h cls dx H2 Fs2 (k.trans k2) g e
  | bad => exact h
theorem PMv.lift {α : Type} {o : Option α} {r : Env} {R : α → Env → Prop} (h : PMv K A0 EA W σ Fs H (lift o r) R) : ∃ d, o = some d ∧ R d r := by
  cases o with
  | none => exact h.elim
  | some d => exact ⟨d, rfl, h⟩
/-- a new list's part -/
def New1 (K : Fr) (A0 : Prot) (σ : L2.St) (H H' : Hp) (r : Env) (Fs : List (Option Addr)) (k : Nat) (v : V) (d : D) : Prop :=
  k = 1 → isMut d = true → ∃ a, v = .ref a ∧ H a = none ∧ OwnL K H' (fun x => Sv A0 Fs x ∨ x = a) a d ∧ Good K (A0.add a) σ H' r Fs
def TMv (K : Fr) (A0 : Prot) (EA : EAt) (W : WX) (k : Nat) (f : Env → Out D) : TE := fun σ H Q => ∃ r Fs, Good K A0 σ H r Fs ∧ PMv K A0 EA W σ Fs H (f r) fun d r1 =>
  ∀ v H' Fs1, Chn A0 H H' Fs Fs1 → Good K A0 σ H' r1 Fs1 → Rep K H' (Sv A0 Fs1) v d → New1 K A0 σ H H' r1 Fs1 k v d → Q v H'
def TTm (K : Fr) (A0 : Prot) (EA : EAt) (W : WX) (f : Env → Out Bool) : TT := fun σ H Q => ∃ r Fs, Good K A0 σ H r Fs ∧ PMv K A0 EA W σ Fs H (f r) fun b r1 =>
  ∀ H' Fs1, Chn A0 H H' Fs Fs1 → Good K A0 σ H' r1 Fs1 → Q b H'
def TIm (K : Fr) (A0 : Prot) (EA : EAt) (W : WX) (f : Env → Out (List D)) : TI := fun σ H R => ∃ r Fs, Good K A0 σ H r Fs ∧ PMv K A0 EA W σ Fs H (f r) fun xs r1 =>
  ∀ J H' Fs1, Chn A0 H H' Fs Fs1 → Good K A0 σ H' r1 Fs1 → ItIs K (Sv A0 Fs1) H' J xs → R J H'
def TEx (K : Fr) (EA : EAt) (W : WX) (k : Nat) (f : Env → Out D) : TE := fun σ H Q => ∃ A0, TEv K A0 EA W k f σ H Q
def TTx (K : Fr) (EA : EAt) (W : WX) (f : Env → Out Bool) : TT := fun σ H Q => ∃ A0, TTv K A0 EA W f σ H Q
def TIx (K : Fr) (EA : EAt) (W : WX) (f : Env → Out (List D)) : TI := fun σ H Q => ∃ A0, TIv K A0 EA W f σ H Q
theorem keepF {Fs : List (Option Addr)} (h : Keep (inF (noF Fs)) H H') : Keep (fun _ => False) H H' := h.weak fun _ z => inF_no z
/-- what cannot be changed is apart from all lists -/
theorem Good.immS (G : Good K A0 σ H r Fs) (kp : Keep (fun _ => False) H H') : ∀ x, Sv A0 Fs x → Sv ⟨fun a => A0 a ∧ ¬ inF Fs a, fun _ => False⟩ (noF Fs) x ∨ ∃ xs, H' x = some (.lst xs) := fun x h => by
  by_cases q : inF Fs x
  · obtain ⟨xs, e⟩ := G.lstF q
    exact .inr ⟨xs, kp.1 _ _ e fun z => z⟩
  · rcases h with h | h
    · exact .inl (.inl ⟨h, q⟩)
    · exact absurd h q
theorem imm_mut {d : D} (h : imm d = true) : isMut d = false := by cases d <;> simp_all [imm, isMut]
theorem shal_mut {d : D} (h : shal d = true) (n : imm d = false) : ∀ {K : Fr} {H : Hp} {S : Addr → Prop} {v : V}, Rep K H S v d → ∃ ds, d = .list ds := by
  intro K H S v q
  cases q <;> simp_all [imm, shal]
variable {T : Nat → Option Fn} {call : Nat → List D → OutC} {m : ME} {md : Md} {k ke : Nat}
theorem tm_imp {Q : VK} (hk : k = 1 → ke = 1) (h : TMv K A0 EA W k (evM T call k md m) σ H Q) : TEx K EA W ke (evE T call m) σ H Q := by
  obtain ⟨r, Fs, G, h⟩ := h
  cases md with
  | look =>
    refine ⟨_, frzA r, _, G.frzA, ?_⟩
    unfold evM at h
    cases e : evE T call m (frzA r) with
    | bad => rw [e] at h; exact h.elim
    | exc x r1 =>
      rw [e] at h
      exact fun cls dx H' kp g ea => h cls dx H' Fs (Chn.keep (kf (keepF kp))) (G.keep0 (keepF kp)) ea
    | ok d r1 =>
      rw [e] at h
      intro v H' kp g q
      have kp := keepF kp
      have h : PMv K A0 EA W σ Fs H (if (imm d || (k == 1 && shal d)) = true then .ok d r else .bad) _ := h
      by_cases hc : (imm d || (k == 1 && shal d)) = true
      · rw [if_pos hc] at h
        by_cases hi : imm d = true
        · exact h v H' Fs (Chn.keep (kf kp)) (G.keep0 kp) (q.1.imm hi (G.immS kp)) fun _ z => by rw [imm_mut hi] at z; cases z
        · have hi : imm d = false := by simpa using hi
          simp only [hi, Bool.false_or, Bool.and_eq_true, beq_iff_eq] at hc
          obtain ⟨hk1, hs⟩ := hc
          obtain ⟨ds, rfl⟩ := shal_mut hs hi q.1
          obtain ⟨a, xs, rfl, ha, hx, rs⟩ := q.2 (hk hk1) ds rfl
          have rs2 : Reps K H' (fun x => Sv A0 Fs x ∨ x = a) xs ds := rs.imm (shal_items hs) fun x z => z.elim (fun z => (G.immS kp x z).elim (fun z => .inl (.inl z)) .inr) fun e => .inl (.inr e)
          have rs' : Reps K H' (Sv A0 Fs) xs ds := rs2.mono fun x z => .inl (.inl z)
          refine h _ H' Fs (Chn.keep (kf kp)) (G.keep0 kp) (.lst (.inl ⟨.inl hx, fun z => G.alS a z ha⟩) rs') fun _ _ => ⟨a, rfl, ha, ⟨xs, ds, rfl, hx, rs2⟩, G.addK ha kp (by rw [hx]; exact fun z => nomatch z)⟩
      · rw [if_neg hc] at h; exact h.elim
  | keep is =>
    obtain ⟨Fs1, G1, l⟩ := G.frz (is := is)
    refine ⟨_, prtA (frz r is), _, G1.prtA, ?_⟩
    have h : PMv K A0 EA W σ Fs H ((evE T call m (prtA (frz r is))).as (frz r is)) _ := h
    cases e : evE T call m (prtA (frz r is)) with
    | bad => rw [e] at h; exact h.elim
    | exc x r1 =>
      rw [e] at h
      exact fun cls dx H' kp g ea => h cls dx H' Fs1 (Chn.less l (kf (keepF kp))) (G1.keep0 (keepF kp)) ea
    | ok d r1 =>
      rw [e] at h
      intro v H' kp g q
      have kp := keepF kp
      have sub : ∀ x, Sv A0 Fs1 x → Sv ⟨Sv A0 Fs1, fun a => A0.p a ∨ inF Fs1 a⟩ (noF Fs1) x := fun x z => .inl z
      refine h v H' Fs1 (Chn.less l (kf kp)) (G1.keep0 kp) (q.1.mono fun x z => .inl (sub x z)) fun hk1 hm => ?_
      obtain ⟨ds, rfl⟩ : ∃ ds, d = .list ds := by
        cases q.1 <;> simp_all [isMut]
      obtain ⟨a, xs, rfl, ha, hx, rs⟩ := q.2 (hk hk1) ds rfl
      exact ⟨a, rfl, ha, ⟨xs, ds, rfl, hx, rs.mono fun x z => .inl (z.elim (fun z => .inl (sub x z)) .inr)⟩, G1.addK ha kp (by rw [hx]; exact fun z => nomatch z)⟩
  | io is =>
    obtain ⟨Fs1, G1, l⟩ := G.frz (is := is)
    refine ⟨A0, frz r is, Fs1, G1, ?_⟩
    have h : PMv K A0 EA W σ Fs H ((evE T call m (frz r is)).bind fun d r1 => if k == 1 && isMut d then (if shalE r1 then .ok d (mixE (frz r is) r1) else .bad) else .ok d r1) _ := h
    cases e : evE T call m (frz r is) with
    | bad => simp only [e, Out.bind] at h; exact h.elim
    | exc x r1 =>
      simp only [e, Out.bind] at h
      exact fun cls dx H' kp g ea => h cls dx H' Fs1 (Chn.less l (kp.weak fun _ z => l.mem z)) g ea
    | ok d r1 =>
      simp only [e, Out.bind] at h
      intro v H' kp g q
      have c : Chn A0 H H' Fs Fs1 := Chn.less l (kp.weak fun _ z => l.mem z)
      by_cases hc : (k == 1 && isMut d) = true
      · rw [if_pos hc] at h
        simp only [Bool.and_eq_true, beq_iff_eq] at hc
        obtain ⟨hk1, hm⟩ := hc
        by_cases hs : shalE r1 = true
        · rw [if_pos hs] at h
          obtain ⟨ds, rfl⟩ : ∃ ds, d = .list ds := by
            cases q.1 <;> simp_all [isMut]
          obtain ⟨a, xs, rfl, ha, hx, rs⟩ := q.2 (hk hk1) ds rfl
          have gm := G1.mix g kp hs ha hx
          refine h _ H' Fs1 c (gm.dropA fun x hx' e' => ?_) q.1 fun _ _ => ⟨a, rfl, ha, ⟨xs, ds, rfl, hx, rs⟩, gm⟩
          subst e'
          exact G1.alS x (.inr hx') ha
        · rw [if_neg hs] at h; exact h.elim
      · rw [if_neg hc] at h
        exact h v H' Fs1 c g q.1 fun hk1 hm => absurd (by simp [hk1, hm]) hc
theorem tt_imp {Q : Bool → Hp → Prop} (h : TTm K A0 EA W (evT T call md m) σ H Q) : TTx K EA W (fun r => tru (evE T call m r)) σ H Q := by
  obtain ⟨r, Fs, G, h⟩ := h
  cases md with
  | look =>
    refine ⟨_, frzA r, _, G.frzA, ?_⟩
    unfold evT at h
    simp only
    cases e : tru (evE T call m (frzA r)) with
    | bad => rw [e] at h; exact h.elim
    | exc x r1 =>
      rw [e] at h
      exact fun cls dx H' kp g ea => h cls dx H' Fs (Chn.keep (kf (keepF kp))) (G.keep0 (keepF kp)) ea
    | ok b r1 =>
      rw [e] at h
      intro H' kp g
      exact h H' Fs (Chn.keep (kf (keepF kp))) (G.keep0 (keepF kp))
  | keep is =>
    obtain ⟨Fs1, G1, l⟩ := G.frz (is := is)
    refine ⟨_, prtA (frz r is), _, G1.prtA, ?_⟩
    have h : PMv K A0 EA W σ Fs H ((tru (evE T call m (prtA (frz r is)))).as (frz r is)) _ := h
    simp only
    cases e : tru (evE T call m (prtA (frz r is))) with
    | bad => rw [e] at h; exact h.elim
    | exc x r1 =>
      rw [e] at h
      exact fun cls dx H' kp g ea => h cls dx H' Fs1 (Chn.less l (kf (keepF kp))) (G1.keep0 (keepF kp)) ea
    | ok b r1 =>
      rw [e] at h
      intro H' kp g
      exact h H' Fs1 (Chn.less l (kf (keepF kp))) (G1.keep0 (keepF kp))
  | io is =>
    obtain ⟨Fs1, G1, l⟩ := G.frz (is := is)
    refine ⟨A0, frz r is, Fs1, G1, ?_⟩
    have h : PMv K A0 EA W σ Fs H (tru (evE T call m (frz r is))) _ := h
    simp only
    cases e : tru (evE T call m (frz r is)) with
    | bad => simp only [e] at h; exact h.elim
    | exc x r1 =>
      simp only [e] at h
      exact fun cls dx H' kp g ea => h cls dx H' Fs1 (Chn.less l (kp.weak fun _ z => l.mem z)) g ea
    | ok d r1 =>
      simp only [e] at h
      exact fun H' kp g => h H' Fs1 (Chn.less l (kp.weak fun _ z => l.mem z)) g
def TIrx (K : Fr) (EA : EAt) (W : WX) (f : Env → Out (List D)) : TI := fun σ H Q => ∃ A0, TIr K A0 EA W f σ H Q
/-- what a loop walks, lists seen as values: a range -/
theorem ti_impL {R : It → Hp → Prop} (h : TIm K A0 EA W (evI T call .look m) σ H R) : TIrx K EA W (fun r => (evE T call m r).bind fun x r1 => lift (itemsD x) r1) σ H R := by
  obtain ⟨r, Fs, G, h⟩ := h
  refine ⟨_, frzA r, _, G.frzA, ?_⟩
  unfold evI at h
  simp only
  cases e : ((evE T call m (frzA r)).bind fun x r1 => lift (itemsD x) r1) with
  | bad => rw [e] at h; exact h.elim
  | exc x r1 =>
    rw [e] at h
    exact fun cls dx H' kp g ea => h cls dx H' Fs (Chn.keep (kf (keepF kp))) (G.keep0 (keepF kp)) ea
  | ok xs r1 =>
    rw [e] at h
    intro J H' kp g it
    exact h J H' Fs (Chn.keep (kf (keepF kp))) (G.keep0 (keepF kp)) (it _)
/-- what a loop walks -/
theorem ti_imp {R : It → Hp → Prop} (hm : md ≠ .look) (h : TIm K A0 EA W (evI T call md m) σ H R) : TIx K EA W (fun r => (evE T call m r).bind fun x r1 => lift (itemsD x) r1) σ H R := by
  obtain ⟨r, Fs, G, h⟩ := h
  cases md with
  | look => exact absurd rfl hm
  | keep is =>
    obtain ⟨Fs1, G1, l⟩ := G.frz (is := is)
    refine ⟨_, prtA (frz r is), _, G1.prtA, ?_⟩
    have h : PMv K A0 EA W σ Fs H (((evE T call m (prtA (frz r is))).bind fun x r1 => lift (itemsD x) r1).as (frz r is)) _ := h
    simp only
    cases e : ((evE T call m (prtA (frz r is))).bind fun x r1 => lift (itemsD x) r1) with
    | bad => rw [e] at h; exact h.elim
    | exc x r1 =>
      rw [e] at h
      exact fun cls dx H' kp g ea => h cls dx H' Fs1 (Chn.less l (kf (keepF kp))) (G1.keep0 (keepF kp)) ea
    | ok xs r1 =>
      rw [e] at h
      intro J H' kp g it
      refine h J H' Fs1 (Chn.less l (kf (keepF kp))) (G1.keep0 (keepF kp)) ?_
      have e1 : (Sv ⟨Sv A0 Fs1, fun a => A0.p a ∨ inF Fs1 a⟩ (noF Fs1)) = Sv A0 Fs1 := by
        funext x
        exact propext ⟨fun z => z.elim id fun z => (inF_no z).elim, fun z => .inl z⟩
      rw [← e1]
      exact it
  | io is =>
    obtain ⟨Fs1, G1, l⟩ := G.frz (is := is)
    refine ⟨A0, frz r is, Fs1, G1, ?_⟩
    have h : PMv K A0 EA W σ Fs H ((evE T call m (frz r is)).bind fun x r1 => lift (itemsD x) r1) _ := h
    simp only
    cases e : ((evE T call m (frz r is)).bind fun x r1 => lift (itemsD x) r1) with
    | bad => simp only [e] at h; exact h.elim
    | exc x r1 =>
      simp only [e] at h
      exact fun cls dx H' kp g ea => h cls dx H' Fs1 (Chn.less l (kp.weak fun _ z => l.mem z)) g ea
    | ok d r1 =>
      simp only [e] at h
      exact fun J H' kp g it => h J H' Fs1 (Chn.less l (kp.weak fun _ z => l.mem z)) g it
end
end Cw
end

section
namespace Cw
open PySem PySem.Spec PyProof.Rows L2

def RetNew (K : Fr) (A0 : Prot) (H H' : Hp) (Fs : List (Option Addr)) (k : Nat) (v : V) (d : D) : Prop :=
  k = 1 → ∀ ds, d = .list ds → ∃ a xs, v = .ref a ∧ (H a = none ∨ (inF Fs a ∧ ¬ A0 a)) ∧ H' a = some (.lst xs) ∧ Reps K H' (fun x => A0 x ∨ x = a) xs ds
def PFv (K : Fr) (A0 : Prot) (EA : EAt) (W : WX) (Fs : List (Option Addr)) (H : Hp) (E : Ends) (o : Out Flow) : Prop :=
  match o with
  | .bad => False
  | .exc x r' => ∀ cls dx σ' H' Fs', Chn A0 H H' Fs Fs' → Good K A0 σ' H' r' Fs' → EA x cls dx H' → W cls dx σ' H'
  | .ok fl r' => ∀ σ' H' Fs', Chn A0 H H' Fs Fs' → Good K A0 σ' H' r' Fs' → match fl with
    | .nx => E.nx σ' H'
    | .brk => E.bk σ' H'
    | .cnt => E.ct σ' H'
    | .ret k d => ∀ v, Rep K H' A0.a v d → RetNew K A0 H H' Fs k v d → E.rt v H'
def TSv (K : Fr) (A0 : Prot) (EA : EAt) (W : WX) (f : Env → Out Flow) : TS := fun E σ H => ∃ r Fs, Good K A0 σ H r Fs ∧ PFv K A0 EA W Fs H E (f r)
section
variable {K : Fr} {A0 : Prot} {EA : EAt} {W : WX} {σ : L2.St} {H H' H1 H2 : Hp} {r r' : Env} {Fs Fs' Fs1 Fs2 : List (Option Addr)} {E : Ends}
theorem PFv.later {o : Out Flow} (h : PFv K A0 EA W Fs H E o) (c : Chn A0 H H1 Fs Fs1) : PFv K A0 EA W Fs1 H1 E o := by
  cases o with
  | bad => exact h
  | exc x r' => exact fun cls dx σ' H' Fs' c' g e => h cls dx σ' H' Fs' (c.trans c') g e
  | ok fl r' =>
    intro σ' H' Fs' c' g
    have q := h σ' H' Fs' (c.trans c') g
    cases fl with
    | nx => exact q
    | brk => exact q
    | cnt => exact q
    | ret k d =>
      intro v rv rn
      refine q v rv fun hk ds e => ?_
      obtain ⟨a, xs, e1, e2, e3, e4⟩ := rn hk ds e
      refine ⟨a, xs, e1, ?_, e3, e4⟩
      rcases e2 with e2 | ⟨e2, n⟩
      · left
        cases q : H a with
        | none => rfl
        | some o => exact absurd e2 (c.kp.2 a (by rw [q]; exact fun z => nomatch z))
      · exact (c.nw a e2).elim (fun z => .inr ⟨z, n⟩) .inl
/-- an expression's part of a statement -/
theorem PFv.val {α : Type} {o : Out α} {g : α → Env → Out Flow} (h : PFv K A0 EA W Fs H E (o.bind g)) {R : α → Env → Prop} (hR : ∀ a r', o = .ok a r' → PFv K A0 EA W Fs H E (g a r') → R a r') : PMv K A0 EA W σ Fs H o R := by
  cases o with
  | ok a r' => exact hR a r' rfl h
  | exc x r' => exact fun cls dx H' Fs' c g e => h cls dx σ H' Fs' c g e
  | bad => exact h
theorem PFv.lift {α : Type} {o : Option α} {r : Env} {g : α → Env → Out Flow} (h : PFv K A0 EA W Fs H E ((Cw.lift o r).bind g)) : ∃ d, o = some d ∧ PFv K A0 EA W Fs H E (g d r) := by
  cases o with
  | none => exact h.elim
  | some d => exact ⟨d, rfl, h⟩
theorem PFv.nx (h : PFv K A0 EA W Fs H E (.ok .nx r)) (c : Chn A0 H H' Fs Fs') (g : Good K A0 σ H' r Fs') : E.nx σ H' := h σ H' Fs' c g
theorem less_clr : ∀ {is : List Nat} {Fs : List (Option Addr)}, Less (clrF Fs is) Fs
  | [], _ => Less.refl
  | i :: is, Fs => (less_clr (is := is)).trans less_set
theorem Chn.sub (c : Chn A0 H H' Fs Fs1) (l : Less Fs2 Fs1) : Chn A0 H H' Fs Fs2 := c.trans (Chn.less l Keep.refl)
theorem Chn.rep {v : V} {d : D} (c : Chn A0 H H' Fs Fs1) (q : Rep K H (Sv A0 Fs) v d) : Rep K H' (Sv A0 Fs1) v d :=
  rep_later q (fun a z => z.elim (fun z => .inl (.inl z)) fun z => (c.nw a z).elim (fun z => .inl (.inr z)) .inr) c.kp sub_in
/-- a new list is stored -/
theorem Good.setO (G : Good K A0 σ H r Fs) {a : Addr} {d : D} (G' : Good K (A0.add a) σ H r Fs) (hn : ¬ A0 a) (hp : ¬ A0.p a) (o : OwnL K H (fun x => Sv A0 Fs x ∨ x = a) a d) (i : Nat) : Good K A0 (σ.set i (some (.ref a))) H (r.set i (.own 1 d)) (Fs.set i (some a)) := by
  have nF : ¬ inF Fs a := fun z => by
    obtain ⟨j, hj⟩ := List.mem_iff_getElem?.mp z
    rcases G.emp j a hj with ⟨d', q⟩ | ⟨d', q⟩
    · obtain ⟨_, b, h1, _, h3, _⟩ := G'.own j 1 d' q
      rw [hj] at h1; cases h1
      exact h3 (.inr rfl)
    · obtain ⟨b, h1, _, h3, _⟩ := G.chg j d' q
      rw [hj] at h1; cases h1
      exact hn h3
  have mem : ∀ x, inF (Fs.set i (some a)) x → x = a ∨ inF Fs x := fun x z => by
    obtain ⟨j, hj⟩ := List.mem_iff_getElem?.mp z
    rcases set_get hj with ⟨_, e⟩ | ⟨_, hj⟩
    · cases e; exact .inl rfl
    · exact .inr (List.mem_of_getElem? hj)
  have mn : ∀ x, Sv A0 (Fs.set i (some a)) x → Sv (A0.add a) Fs x := fun x z => by
    rcases z with z | z
    · exact .inl (.inl z)
    · rcases mem x z with z | z
      · exact .inl (.inr z)
      · exact .inr z
  have o' : OwnL K H (Sv A0 (Fs.set i (some a))) a d := o.mono fun x z => (mn x z).elim (fun z => z.elim (fun z => .inl (.inl z)) .inr) fun z => .inl (.inr z)
  have lt : ∀ {j : Nat} {e : Slot}, r[j]? = some e → j < σ.length := fun {j e} h => by rw [G.slen]; exact (List.getElem?_eq_some_iff.mp h).1
  refine ⟨by simp [G.len], by simp [G.slen], fun j e h => ?_, fun j k e h => ?_, fun j e h => ?_, fun j e h => ?_, fun x h => ⟨fun z => ?_, (G.pal x h).2⟩, fun j k x h1 h2 => ?_, fun j x h => ?_, G.al⟩
  · rcases set_get h with ⟨rfl, hh⟩ | ⟨ne, h⟩
    · cases hh
    · obtain ⟨w, h1, h2⟩ := G'.val j e h
      exact ⟨w, by rw [List.getElem?_set_ne ne]; exact h1, h2.mono fun x z => .inl (mn x z)⟩
  · rcases set_get h with ⟨rfl, hh⟩ | ⟨ne, h⟩
    · cases hh
      have hl : i < r.length := by
        by_cases hl : i < r.length
        · exact hl
        · rw [List.getElem?_eq_none (by simpa using hl)] at h; cases h
      exact ⟨rfl, a, List.getElem?_set_self (by rw [G.len]; exact hl), List.getElem?_set_self (by rw [G.slen]; exact hl), hn, o'⟩
    · obtain ⟨e1, b, h1, h2, h3, h4⟩ := G'.own j k e h
      exact ⟨e1, b, by rw [List.getElem?_set_ne ne]; exact h1, by rw [List.getElem?_set_ne ne]; exact h2, fun z => h3 (.inl z), h4.mono mn⟩
  · rcases set_get h with ⟨rfl, hh⟩ | ⟨ne, h⟩
    · cases hh
    · obtain ⟨b, h1, h2, h3, _⟩ := G.chg j e h
      obtain ⟨b', h1', _, _, h4⟩ := G'.chg j e h
      rw [h1] at h1'; cases h1'
      exact ⟨b, by rw [List.getElem?_set_ne ne]; exact h1, by rw [List.getElem?_set_ne ne]; exact h2, h3, h4.mono mn⟩
  · rcases set_get h with ⟨rfl, hh⟩ | ⟨ne, h⟩
    · cases hh
    · obtain ⟨b, h1, h2, h3⟩ := G'.prt j e h
      exact ⟨b, by rw [List.getElem?_set_ne ne]; exact h1, h2, h3.mono mn⟩
  · rcases mem x z with e | z
    · subst e; exact hp h
    · exact (G.pal x h).1 z
  · rcases set_get h1 with ⟨e1, q1⟩ | ⟨_, h1⟩
    · cases q1
      rcases set_get h2 with ⟨e2, _⟩ | ⟨_, h2⟩
      · exact e1.symm.trans e2
      · exact absurd (List.mem_of_getElem? h2) nF
    · rcases set_get h2 with ⟨_, q2⟩ | ⟨_, h2⟩
      · cases q2
        exact absurd (List.mem_of_getElem? h1) nF
      · exact G.inj j k x h1 h2
  · rcases set_get h with ⟨e1, q1⟩ | ⟨ne, h⟩
    · cases q1
      subst e1
      have hl : i < r.length := by
        by_cases hl : i < r.length
        · exact hl
        · rw [List.getElem?_eq_none (by simp [G.len]; omega)] at h; cases h
      exact .inl ⟨d, List.getElem?_set_self hl⟩
    · rw [List.getElem?_set_ne ne]
      exact G.emp j x h
end
end Cw
end

section
namespace Cw
open PySem PySem.Spec PyProof.Rows L2

section
variable {X : Cx} {A0 : Prot} {EA : EAt} {W : WX} {T : Nat → Option Fn} {call : Nat → List D → OutC} {m : ME} {md : Md} {k ke : Nat} {e : Expr} {es : List Expr} {pos : Pos} {st : Stmt} {rest a b : List Stmt}
theorem PS.imp {t t' : TS} (h : PS X st t) (i : ∀ E σ H, t' E σ H → t E σ H) : PS X st t' := ⟨fun pins s σ H E I q => h.run pins s σ H E I (i E σ H q)⟩
theorem PSs.imp {t t' : TS} (h : PSs X rest t) (i : ∀ E σ H, t' E σ H → t E σ H) : PSs X rest t' := ⟨fun pins s σ H E I q => h.run pins s σ H E I (i E σ H q)⟩
theorem ts_nil : PSs X [] (TSv X.K A0 EA W fun r => .ok .nx r) := PSs.imp pss_nil fun E σ H ⟨r, Fs, G, h⟩ => h σ H Fs Chn.refl G
def seqF (f g : Env → Out Flow) : Env → Out Flow := fun r => (f r).bind fun o r1 => match o with
    | .nx => g r1
    | o => .ok o r1
theorem ts_cons {f g : Env → Out Flow} (h1 : PS X st (TSv X.K A0 EA W f)) (h2 : PSs X rest (TSv X.K A0 EA W g)) : PSs X (st :: rest) (TSv X.K A0 EA W (seqF f g)) := by
  refine PSs.imp (pss_cons h1 h2) fun E σ H ⟨r, Fs, G, h⟩ => ⟨r, Fs, G, ?_⟩
  unfold seqF at h
  cases e : f r with
  | bad => rw [e] at h; exact h.elim
  | exc x r' => rw [e] at h; exact h
  | ok fl r' =>
    rw [e] at h
    intro σ' H' Fs' c g'
    cases fl with
    | nx => exact ⟨r', Fs', g', PFv.later (show PFv X.K A0 EA W Fs H E (g r') from h) c⟩
    | brk => exact h σ' H' Fs' c g'
    | cnt => exact h σ' H' Fs' c g'
    | ret k d => exact h σ' H' Fs' c g'
theorem ts_bot : PS X st (TSv X.K A0 EA W fun _ => .bad) := PS.imp ps_never fun E σ H ⟨r, Fs, G, h⟩ => h
theorem ts_pass (h : PS X st tNext) : PS X st (TSv X.K A0 EA W fun r => .ok .nx r) := PS.imp h fun E σ H ⟨r, Fs, G, h⟩ => h σ H Fs Chn.refl G
theorem ts_brk : PS X (.Break pos) (TSv X.K A0 EA W fun r => .ok .brk r) := PS.imp ps_break fun E σ H ⟨r, Fs, G, h⟩ => h σ H Fs Chn.refl G
theorem ts_cnt : PS X (.Continue pos) (TSv X.K A0 EA W fun r => .ok .cnt r) := PS.imp ps_continue fun E σ H ⟨r, Fs, G, h⟩ => h σ H Fs Chn.refl G
theorem ts_asg {i : Nat} (hk : k = 1 → ke = 1) (h : PS X st (tAsg (TEx X.K EA W ke (evE T call m)) (gName i))) :
    PS X st (TSv X.K A0 EA W fun r => (evM T call k md m r).bind fun d r1 => .ok .nx (r1.set i (if k == 1 && isMut d then .own 1 d else .val d))) := by
  refine PS.imp h fun E σ H ⟨r, Fs, G, h⟩ => ?_
  refine tm_imp (A0 := A0) hk ⟨r, Fs, G, PFv.val h fun d r1 _ h1 => fun v H' Fs1 c g q n => ?_⟩
  show E.nx (σ.set i (some v)) H'
  by_cases hc : (k == 1 && isMut d) = true
  · rw [if_pos hc] at h1
    simp only [Bool.and_eq_true, beq_iff_eq] at hc
    obtain ⟨a, rfl, ha, o, g'⟩ := n hc.1 hc.2
    have hn : ¬ A0 a := fun z => G.al a z ha
    have hp : ¬ A0.p a := fun z => (G.pal a z).2 ha
    refine h1.nx (Fs' := Fs1.set i (some a)) ?_ (g.setO g' hn hp o i)
    refine ⟨c.kp, fun x z => ?_, fun j x z y => ?_⟩
    · obtain ⟨j, hj⟩ := List.mem_iff_getElem?.mp z
      rcases set_get hj with ⟨_, e⟩ | ⟨_, hj⟩
      · cases e; exact .inr ha
      · exact c.nw x (List.mem_of_getElem? hj)
    · rcases set_get z with ⟨_, e⟩ | ⟨_, z⟩
      · cases e; exact absurd y hn
      · exact c.mt j x z y
  · rw [if_neg hc] at h1
    exact h1.nx (c.sub less_set) (g.setV q i)
theorem ts_asgT {t : Tg} (h : PS X st (tAsg (TEx X.K EA W ke (evE T call m)) (TGv X.K t))) :
    PS X st (TSv X.K A0 EA W fun r => (evM T call 0 md m r).bind fun d r1 => (lift (asgG t d r1) r1).bind fun r2 _ => .ok .nx r2) := by
  refine PS.imp h fun E σ H ⟨r, Fs, G, h⟩ => ?_
  refine tm_imp (A0 := A0) (by omega) ⟨r, Fs, G, PFv.val h fun d r1 _ h1 => fun v H' Fs1 c g q n => ?_⟩
  obtain ⟨r2, h2, h3⟩ := h1.lift
  exact ⟨A0, r1, Fs1, d, r2, g, q, h2, fun σ' g' _ _ => h3.nx (c.sub less_clr) g'⟩
theorem ts_ret (hk : k = 1 → ke = 1) (h : PE X e (TEx X.K EA W ke (evE T call m))) : PS X (.Return (some e) pos) (TSv X.K A0 EA W fun r => (evM T call k md m r).bind fun d r1 => .ok (.ret k d) r1) := by
  refine PS.imp (ps_ret h) fun E σ H ⟨r, Fs, G, h⟩ => ?_
  refine tm_imp (A0 := A0) hk ⟨r, Fs, G, PFv.val h fun d r1 _ h1 => fun v H' Fs1 c g q n => ?_⟩
  refine h1 σ H' Fs1 c g v (q.mono fun a z => .inl (.inl z)) fun hk ds e => ?_
  subst e
  obtain ⟨a, rfl, ha, ⟨xs, ds', e, hx, rs⟩, _⟩ := n hk rfl
  cases e
  exact ⟨a, xs, rfl, .inl ha, hx, rs.mono fun x z => .inl (z.elim (fun z => .inl (.inl z)) .inr)⟩
theorem ts_retN : PS X (.Return none pos) (TSv X.K A0 EA W fun r => .ok (.ret 0 .none) r) :=
  PS.imp ps_retN fun E σ H ⟨r, Fs, G, h⟩ => h σ H Fs Chn.refl G .non .non fun z => nomatch z
def retF (i : Nat) : Env → Out Flow := fun r => match r[i]? with
    | some (.own 1 d) => .ok (.ret 1 d) r
    | some (.val d) => .ok (.ret 0 d) r
    | _ => .bad
theorem ts_retv {i : Nat} {p : Pos} {x : Str} (hN : X.N[i]? = some x) (hv : Vis X.env.scope x) (hd : (x == ("__debug__" : Str)) = false) (hcd : (x == ("__classdict__" : Str)) = false) : PS X (.Return (some (.Name x p)) pos) (TSv X.K A0 EA W (retF i)) := by
  refine PS.imp (ps_ret (pe_var hN hv hd hcd)) fun E σ H ⟨r, Fs, G, h⟩ => ?_
  unfold retF at h
  split at h
  · rename_i d q
    obtain ⟨_, a, h1, h2, h3, h4⟩ := G.own i 1 d q
    refine ⟨_, h2, h σ H Fs Chn.refl G _ (h4.rep h3 fun x z => .inl z) fun _ ds e => ?_⟩
    obtain ⟨xs, ds', e', hx, rs⟩ := h4
    subst e'
    cases e
    refine ⟨a, xs, rfl, .inr ⟨List.mem_of_getElem? h1, h3⟩, hx, rs.mono fun x z => .inl ?_⟩
    rcases z with z | z
    · exact .inl z
    · subst z; exact .inr (List.mem_of_getElem? h1)
  · rename_i d q
    obtain ⟨v, h1, h2⟩ := G.val i d q
    exact ⟨v, h1, h σ H Fs Chn.refl G v (h2.mono fun x z => .inl (.inl z)) fun z => nomatch z⟩
  · exact h.elim
theorem ts_exp (hs : swapsWith e none pos.line X.env = pure false) (h : PE X e (TEx X.K EA W ke (evE T call m))) : PS X (.Expr e pos) (TSv X.K A0 EA W fun r => (evM T call 0 md m r).bind fun _ r1 => .ok .nx r1) := by
  refine PS.imp (ps_expr h hs) fun E σ H ⟨r, Fs, G, h⟩ => ?_
  exact tm_imp (A0 := A0) (by omega) ⟨r, Fs, G, PFv.val h fun d r1 _ h1 => fun v H' Fs1 c g q n => h1.nx c g⟩
theorem ts_if {c : Expr} {fa fb : Env → Out Flow} (hc : PT X c (TTx X.K EA W fun r => tru (evE T call m r))) (ha : PSs X a (TSv X.K A0 EA W fa)) (hb : PSs X b (TSv X.K A0 EA W fb)) :
    PS X (.If c a b pos) (TSv X.K A0 EA W fun r => (evT T call md m r).bind fun k r1 => if k then fa r1 else fb r1) := by
  refine PS.imp (ps_if hc ha hb) fun E σ H ⟨r, Fs, G, h⟩ => ?_
  refine tt_imp (A0 := A0) ⟨r, Fs, G, PFv.val h fun d r1 _ h1 => fun H' Fs1 c g => ?_⟩
  cases d with
  | true =>
    rw [if_pos rfl] at h1 ⊢
    exact ⟨r1, Fs1, g, h1.later c⟩
  | false =>
    rw [if_neg Bool.false_ne_true] at h1 ⊢
    exact ⟨r1, Fs1, g, h1.later c⟩
theorem loop_turn {fb : Env → Out Flow} {r2 : Env} {g : Env → Out Flow} {Fs : List (Option Addr)} {H : Hp} {E : Ends} {N : L2.St → Hp → Prop}
    (h : PFv X.K A0 EA W Fs H E ((fb r2).bind fun o r' => match o with
      | .nx => g r'
      | .cnt => g r'
      | .brk => .ok .nx r'
      | .ret k d => .ok (.ret k d) r'))
    (hN : ∀ r' σ' H' Fs', Chn A0 H H' Fs Fs' → Good X.K A0 σ' H' r' Fs' → PFv X.K A0 EA W Fs' H' E (g r') → N σ' H') : PFv X.K A0 EA W Fs H { E with nx := N, ct := N, bk := E.nx } (fb r2) := by
  cases e : fb r2 with
  | bad => rw [e] at h; exact h
  | exc x r' => rw [e] at h; exact h
  | ok fl r' =>
    rw [e] at h
    intro σ' H' Fs' c g'
    cases fl with
    | nx => exact hN r' σ' H' Fs' c g' (PFv.later (show PFv X.K A0 EA W Fs H E (g r') from h) c)
    | cnt => exact hN r' σ' H' Fs' c g' (PFv.later (show PFv X.K A0 EA W Fs H E (g r') from h) c)
    | brk => exact h σ' H' Fs' c g'
    | ret k d => exact h σ' H' Fs' c g'
theorem ts_for {t : Tg} {tg iter : Expr} {body : List Stmt} {fb : Env → Out Flow} {wi : TI} (hp : PassesOwn (model X.prog X.w) X.A X.env X.xe) (hc : X.calm = true) (hi : PI X tg iter wi)
    (hw : ∀ σ H R, TIm X.K A0 EA W (evI T call md m) σ H R → wi σ H R) (hg : PG X tg (TGv X.K t)) (hb : PSs X body (TSv X.K A0 EA W fb)) (hs : ∀ x, foldedSetIterable iter X.env x = pure x) :
    PS X (.For tg iter body [] pos) (TSv X.K A0 EA W fun r => (evI T call md m r).bind fun xs r1 => loopF (fun y rr => match asgG t y rr with
        | none => .bad
        | some r2 => fb r2) xs r1) := by
  refine PS.imp (ps_for hp hc hi hg hb hs) fun E σ H ⟨r, Fs, G, h⟩ => ?_
  refine hw _ _ _ ⟨r, Fs, G, PFv.val h fun xs r1 _ h1 => fun J H1 Fs1 c G1 it => ?_⟩
  generalize hf : (fun (y : D) (rr : Env) => (match asgG t y rr with
        | none => .bad
        | some r2 => fb r2 : Out Flow)) = f at h1
  refine ⟨fun i m σ H => m = xs.length - i ∧ i ≤ xs.length ∧ ∃ rr Fs', Good X.K A0 σ H rr Fs' ∧ Chn A0 H1 H Fs1 Fs' ∧ PFv X.K A0 EA W Fs' H E (loopF f (xs.drop i) rr),
    ⟨_, rfl, Nat.zero_le _, r1, Fs1, G1, Chn.refl, h1.later c⟩, ?_⟩
  rintro i m σ5 H5 ⟨rfl, hi, rr, Fs5, G5, c5, h5⟩
  have hS : ∀ a, Sv A0 Fs5 a → Sv A0 Fs1 a ∨ H1 a = none := fun a z => z.elim (fun z => .inl (.inl z)) fun z => (c5.nw a z).elim (fun z => .inl (.inr z)) .inr
  obtain ⟨hgo, hstop⟩ := it i H5 _ hS (c5.kp.weak sub_in) G5.alS
  by_cases hlt : i < xs.length
  · right
    obtain ⟨go, yl⟩ := hgo hlt
    refine ⟨go, fun σ H => ∃ rr Fs', Good X.K A0 σ H rr Fs' ∧ Chn A0 H1 H Fs1 Fs' ∧ PFv X.K A0 EA W Fs' H E (loopF f (xs.drop (i + 1)) rr), fun σ' H' ⟨rr, Fs', q⟩ => ⟨_, by omega, rfl, hlt, rr, Fs', q⟩, fun x H' hy => ?_⟩
    obtain ⟨kp, d, hd, rd⟩ := yl x H' hy
    have hdr : xs.drop i = d :: xs.drop (i + 1) := by
      rw [List.drop_eq_getElem_cons hlt]
      congr 1
      exact (List.getElem?_eq_some_iff.mp hd).2
    rw [hdr] at h5
    simp only [loopF] at h5
    have c6 : Chn A0 H5 H' Fs5 Fs5 := Chn.keep (kf kp)
    cases ha : asgG t d rr with
    | none => rw [← hf] at h5; simp only [ha] at h5; exact h5.elim
    | some r2 =>
      refine ⟨A0, rr, Fs5, d, r2, G5.keep0 kp, rd, ha, fun σ6 G6 _ _ => ⟨r2, _, G6, ?_⟩⟩
      have h6 : PFv X.K A0 EA W Fs5 H5 E ((fb r2).bind fun o r' => match o with
          | .nx => loopF f (xs.drop (i + 1)) r'
          | .cnt => loopF f (xs.drop (i + 1)) r'
          | .brk => .ok .nx r'
          | .ret k d => .ok (.ret k d) r') := by
        have e1 : f d rr = fb r2 := by rw [← hf]; simp only [ha]
        rw [e1] at h5
        exact h5
      have c7 : Chn A0 H5 H' Fs5 (clrF Fs5 (tgS t)) := c6.sub less_clr
      exact loop_turn (h6.later c7) fun r' σ' H7 Fs7 c8 g8 h8 => ⟨r', Fs7, g8, (c5.trans c7).trans c8, h8⟩
  · left
    have e : i = xs.length := by omega
    subst e
    rw [List.drop_length] at h5
    exact ⟨hstop (Nat.le_refl _), h5.nx Chn.refl G5⟩
theorem ts_while {c : Expr} {body : List Stmt} {fb : Env → Out Flow} {n : Nat} (hp : PassesOwn (model X.prog X.w) X.A X.env X.xe) (hc : PT X c (TTx X.K EA W fun r => tru (evE T call m r))) (hb : PSs X body (TSv X.K A0 EA W fb)) :
    PS X (.While c body [] pos) (TSv X.K A0 EA W fun r => loopW (fun rr => evT T call md m rr) fb n r) := by
  refine PS.imp (ps_while hp hc hb) fun E σ H ⟨r, Fs, G, h⟩ => ?_
  refine ⟨fun n σ H => ∃ rr Fs', Good X.K A0 σ H rr Fs' ∧ PFv X.K A0 EA W Fs' H E (loopW (fun rr => evT T call md m rr) fb n rr), ⟨n, r, Fs, G, h⟩, ?_⟩
  rintro n σ5 H5 ⟨rr, Fs5, G5, h5⟩
  cases n with
  | zero => exact h5.elim
  | succ n =>
    unfold loopW at h5
    refine tt_imp (A0 := A0) ⟨rr, Fs5, G5, PFv.val h5 fun d r1 _ h1 => fun H' Fs1 c g => ?_⟩
    cases d with
    | false =>
      rw [if_neg Bool.false_ne_true] at h1 ⊢
      exact h1.nx c g
    | true =>
      rw [if_pos rfl] at h1 ⊢
      refine ⟨fun σ H => ∃ rr Fs', Good X.K A0 σ H rr Fs' ∧ PFv X.K A0 EA W Fs' H E (loopW (fun rr => evT T call md m rr) fb n rr), fun σ' H' q => ⟨n, Nat.lt_succ_self n, q⟩, r1, Fs1, g, ?_⟩
      exact loop_turn (h1.later c) fun r' σ' H7 Fs7 c8 g8 h8 => ⟨r', Fs7, g8, h8⟩
theorem chn_put {H : Hp} {Fs : List (Option Addr)} {i : Nat} {p : Addr} {o : HO} (hF : Fs[i]? = some (some p)) : Chn A0 H (upd H p o) Fs Fs := Chn.keep (Keep.put (List.mem_of_getElem? hF))
/-- the list at a slot, changed -/
theorem put_list {σ : L2.St} {H : Hp} {r : Env} {Fs : List (Option Addr)} (G : Good X.K A0 σ H r Fs) {i : Nat} {p : Addr} {xs : List V} {ds : List D} (hF : Fs[i]? = some (some p)) (rs : Reps X.K H (Sv A0 Fs) xs ds) :
    Good X.K A0 σ (upd H p (.lst xs)) (putM r i (.list ds)) Fs :=
  G.put hF (Keep.put rfl) ⟨xs, ds, rfl, upd_same, rs.keep (M := fun a => a = p) (Keep.put rfl) fun a e => by rw [e]; exact .inr (List.mem_of_getElem? hF)⟩
theorem setD_eq {d k v d' : D} (h : setD d k v = some d') : ∃ xs i j, d = .list xs ∧ k = .int i ∧ ixN xs.length i = some j ∧ d' = .list (xs.set j v) := by
  cases d <;> cases k <;> simp only [setD, reduceCtorEq, Option.map_eq_some_iff] at h
  obtain ⟨j, h1, h2⟩ := h
  exact ⟨_, _, j, rfl, rfl, h1, h2.symm⟩
theorem ts_set {i : Nat} {mk : ME} {kk : Nat} {x : Str} {ix : Expr} {p : Pos}
    (hN : X.N[i]? = some x) (hv : Vis X.env.scope x) (hd : (x == ("__debug__" : Str)) = false) (hcd : (x == ("__classdict__" : Str)) = false)
    (h : PE X e (TEx X.K EA W ke (evE T call m))) (hk : PE X ix (TEx X.K EA W kk (evE T call mk))) {tp : Pos} (hs : swapsWithSole [.Subscript (.Name x p) ix tp] e pos.line X.env = pure false) (hw : swappedStores [.Subscript (.Name x p) ix tp] e X.env = pure none)
    (ha : ∀ v, assign (.Subscript (.Name x p) ix tp) X.env v = (do
      let ov ← holding [v] (eval (.Name x p) X.env)
      let iv ← holding [v, ov] (eval ix X.env)
      standAt tp
      holding [v, ov, iv] (setItem ov iv v)
      release [v, ov, iv] [])) :
    PS X (.Assign [.Subscript (.Name x p) ix tp] e pos) (TSv X.K A0 EA W fun r => (evM T call 0 md m r).bind fun v r1 => (lift (getM r1 i) r1).bind fun _ r2 => (evM T call 0 (.keep []) mk r2).bind fun k r3 =>
      (lift (getM r3 i) r3).bind fun d r4 => (lift (setD d k v) r4).bind fun d' r5 => .ok .nx (putM r5 i d')) := by
  refine PS.imp (ps_asg h (pg_sub (pe_var hN hv hd hcd) hk set_list ha) hs hw) fun E σ H ⟨r, Fs, G, h⟩ => ?_
  refine tm_imp (A0 := A0) (by omega) ⟨r, Fs, G, PFv.val h fun dv r1 _ h1 => fun v H1 Fs1 c1 g1 q1 _ => ?_⟩
  obtain ⟨d0, e0, h2⟩ := h1.lift
  obtain ⟨q, hσ, hF1, _⟩ := getM_at g1 e0
  refine ⟨_, hσ, ?_⟩
  refine tm_imp (A0 := A0) (by omega) ⟨r1, Fs1, g1, PFv.val (h2.later c1) fun dk r3 _ h3 => fun vk H3 Fs3 c3 g3 q3 _ => ?_⟩
  obtain ⟨d1, e1, h4⟩ := h3.lift
  obtain ⟨d', e2, h5⟩ := h4.lift
  obtain ⟨q', hσ', hF3, o3⟩ := getM_at g3 e1
  rw [hσ] at hσ'
  cases hσ'
  obtain ⟨ds, ki, j, rfl, rfl, hj, rfl⟩ := setD_eq e2
  obtain ⟨xs, ds', e', hx, rs⟩ := o3
  cases e'
  have rv := c3.rep q1
  exact ⟨q, xs, ki, j, rfl, rep_int q3, hx, by rw [rs.length]; exact hj, h5.nx (c3.trans (chn_put hF3)) (put_list g3 hF3 (rs.set j rv))⟩
theorem appD_eq {d v d' : D} (h : appD d v = some d') : ∃ xs, d = .list xs ∧ xs.length < LIM ∧ d' = .list (xs ++ [v]) := by
  cases d <;> simp only [appD, reduceCtorEq, Option.ite_none_right_eq_some, Option.some.injEq] at h
  exact ⟨_, rfl, h.1, h.2.symm⟩
theorem ts_app {i : Nat} {x : Str} {p ap cp : Pos} (hN : X.N[i]? = some x) (hv : Vis X.env.scope x) (hd : (x == ("__debug__" : Str)) = false) (hcd : (x == ("__classdict__" : Str)) = false)
    (h : PE X e (TEx X.K EA W ke (evE T call m))) (hs : notStar e = true) (hline : (ap.endLine == cp.line) = true) :
    PS X (.Expr (.Call (.Attribute (.Name x p) "append" ap) [e] [] cp) pos) (TSv X.K A0 EA W fun r => (lift (getM r i) r).bind fun _ r => (evM T call 0 md m r).bind fun v r1 => (lift (getM r1 i) r1).bind fun d r2 => (lift (appD d v) r2).bind fun d' r3 => .ok .nx (putM r3 i d')) := by
  refine PS.imp (ps_expr (pe_bm (T := "list") (id := "list.append") F.plainAttrs_list F.slot_list_append (by rfl) mt_append (pe_var hN hv hd hcd) (pa_cons h pa_nil (star_cons hs)) (by rfl) (by rw [star_cons hs]; rfl) hline (star_cons hs) (by rfl)) (by rfl)) fun E σ H ⟨r, Fs, G, h⟩ => ?_
  obtain ⟨d0, e0, h1⟩ := h.lift
  obtain ⟨q, hσ, hF, o0⟩ := getM_at G e0
  refine ⟨_, hσ, ?_, ?_⟩
  · obtain ⟨xs, ds, _, hx, _⟩ := o0
    exact .inl ⟨rfl, xs, .inl (.inl hx)⟩
  refine tm_imp (A0 := A0) (by omega) ⟨r, Fs, G, PFv.val h1 fun dv r1 _ h2 => fun v H1 Fs1 c1 g1 q1 _ => ?_⟩
  obtain ⟨d1, e1, h3⟩ := h2.lift
  obtain ⟨d', e2, h4⟩ := h3.lift
  obtain ⟨q', hσ', hF1, o1⟩ := getM_at g1 e1
  rw [hσ] at hσ'
  cases hσ'
  obtain ⟨ds, rfl, hl, rfl⟩ := appD_eq e2
  obtain ⟨xs, ds', e', hx, rs⟩ := o1
  cases e'
  exact ⟨q, xs, v, rfl, rfl, hx, by rw [rs.length, ← LIM_eq]; exact hl, h4.nx (c1.trans (chn_put hF1)) (put_list g1 hF1 (rs.append (.cons q1 .nil)))⟩
theorem inplD_eq {op : BOp} {x y z : D} (h : inplD op x y = some z) : ∃ i j, x = .int i ∧ y = .int j ∧ ((op = .add ∧ z = .int (i + j)) ∨ (op = .sub ∧ z = .int (i - j))) := by
  cases op <;> cases x <;> cases y <;> simp only [inplD, reduceCtorEq, Option.some.injEq] at h
  · exact ⟨_, _, rfl, rfl, .inl ⟨rfl, h.symm⟩⟩
  · exact ⟨_, _, rfl, rfl, .inr ⟨rfl, h.symm⟩⟩
/-- += and -= on ints -/
def ipD (op : BOp) : TIp := fun x y H Q => ∃ i j, x = .int i ∧ y = .int j ∧ ((op = .add ∧ Q (.int (i + j)) H) ∨ (op = .sub ∧ Q (.int (i - j)) H))
theorem ip_d (op : BOp) : PIp X (opOf op) (ipD op) := by
  intro pins s σ H x y v u Q I r1 r2 ⟨i, j, e1, e2, h⟩
  rcases h with ⟨rfl, q⟩ | ⟨rfl, q⟩
  · exact ip_add pins s σ H x y v u Q I r1 r2 ⟨i, j, e1, e2, q⟩
  · exact ip_sub pins s σ H x y v u Q I r1 r2 ⟨i, j, e1, e2, q⟩
theorem ts_aug {i : Nat} {op : BOp} {x : Str} {p : Pos} (hnd : X.N.Nodup) (hT : TgName X i x) (h : PE X e (TEx X.K EA W ke (evE T call m))) :
    PS X (.AugAssign (.Name x p) (opOf op) e pos) (TSv X.K A0 EA W fun r => (lift (getV r i) r).bind fun x r1 => (evM T call 0 md m r1).bind fun y r2 => (lift (inplD op x y) r2).bind fun z r3 => .ok .nx (r3.set i (.val z))) := by
  refine PS.imp (ps_aug hnd hT.at_ hT.loc h (ip_d op) hT.fn) fun E σ H ⟨r, Fs, G, h⟩ => ?_
  obtain ⟨d, hd, h1⟩ := h.lift
  have e : r[i]? = some (.val d) := by
    unfold getV at hd
    split at hd
    · cases hd; assumption
    · cases hd
  obtain ⟨v, hv, q⟩ := G.val i d e
  refine ⟨v, hv, tm_imp (A0 := A0) (by omega) ⟨r, Fs, G, PFv.val h1 fun dy r1 _ h2 => fun w H1 Fs1 c1 g1 q1 _ => ?_⟩⟩
  obtain ⟨z, hz, h3⟩ := h2.lift
  obtain ⟨a, b, rfl, rfl, hz2⟩ := inplD_eq hz
  refine ⟨a, b, rep_int q, rep_int q1, ?_⟩
  rcases hz2 with ⟨ho, rfl⟩ | ⟨ho, rfl⟩
  · exact .inl ⟨ho, h3.nx (c1.sub less_set) (g1.setV (.int _) i)⟩
  · exact .inr ⟨ho, h3.nx (c1.sub less_set) (g1.setV (.int _) i)⟩
theorem get_list : PGet X (rIxL X.K) := by
  intro pins s σ H o i ov iv Q I ro ri h
  obtain ⟨p, xs, k, z, rfl, rfl, hq, he, q⟩ := h
  cases ro
  obtain ⟨t, rfl⟩ := ri
  obtain ⟨its, r, pl, hz⟩ := I.list hq
  obtain ⟨j, h1, h2, h3, h4, h5⟩ := atI_get he
  obtain ⟨w, ew, rw'⟩ := r.get h2
  have hl := r.length
  have hn := line63
  have fin : EP X pins σ Q w s := ⟨z, H, I, rw', q⟩
  by_cases h0 : 0 ≤ k
  · have hj : k.toNat = j := by
      rw [seqIndex_of h0 h5] at h1
      exact Option.some.inj h1
    exact wpAny_getItem_list pl.isList h0 (by omega) (by rw [hj]; simpa using ew) fin
  · have hj : (k + (its.toArray.size : Int)).toNat = j := by
      rw [seqIndex_neg (by omega) h4] at h1
      rw [List.size_toArray, ← hl]
      exact Option.some.inj h1
    exact wpAny_getItem_list_neg pl.isList (by omega) (by rw [List.size_toArray] <;> omega) (by omega) (by rw [hj]; simpa using ew) fin
theorem ts_augS {i : Nat} {mk : ME} {kk : Nat} {op : BOp} {x : Str} {ix : Expr} {p tp : Pos}
    (hN : X.N[i]? = some x) (hv : Vis X.env.scope x) (hd : (x == ("__debug__" : Str)) = false) (hcd : (x == ("__classdict__" : Str)) = false)
    (h : PE X e (TEx X.K EA W ke (evE T call m))) (hk : PE X ix (TEx X.K EA W kk (evE T call mk)))
    (ha : ∀ ov iv new, augStore ix ov iv new = (do holding [new, ov, iv] (setItem ov iv new); release [new, ov, iv] []; pure .next)) :
    PS X (.AugAssign (.Subscript (.Name x p) ix tp) (opOf op) e pos) (TSv X.K A0 EA W fun r => (lift (getM r i) r).bind fun _ r => (evM T call 0 (.keep []) mk r).bind fun k r1 => (lift (getM r1 i) r1).bind fun d r2 => (lift (idxD d k) r2).bind fun x r3 =>
      (evM T call 0 md m r3).bind fun y r4 => (lift (inplD op x y) r4).bind fun z r5 => (lift (getM r5 i) r5).bind fun d2 r6 =>
        (lift (setD d2 k z) r6).bind fun d' r7 => .ok .nx (putM r7 i d')) := by
  refine PS.imp (ps_augS (pe_var hN hv hd hcd) hk get_list h (ip_d op) set_list ha) fun E σ H ⟨r, Fs, G, h⟩ => ?_
  obtain ⟨d0, e0, h1⟩ := h.lift
  obtain ⟨q, hσ, hF, o0⟩ := getM_at G e0
  refine ⟨_, hσ, tm_imp (A0 := A0) (by omega) ⟨r, Fs, G, PFv.val h1 fun dk r1 _ h2 => fun vk H1 Fs1 c1 g1 q1 _ => ?_⟩⟩
  obtain ⟨d1, e1, h3⟩ := h2.lift
  obtain ⟨dx, e2, h4⟩ := h3.lift
  obtain ⟨q', hσ', hF1, o1⟩ := getM_at g1 e1
  rw [hσ] at hσ'
  cases hσ'
  obtain ⟨xs, ds, rfl, hx, rs⟩ := o1
  obtain ⟨ki, rfl⟩ : ∃ ki, dk = .int ki := by cases dk <;> simp_all [idxD]
  simp only [idxD] at e2
  obtain ⟨j, ej, e3⟩ := atI_eq e2
  obtain ⟨w, h5, h6⟩ := rs.get e3
  refine ⟨q, xs, ki, w, rfl, rep_int q1, .inl (.inl hx), atI_of (by rw [rs.length]; exact ej) h5, ?_⟩
  refine tm_imp (A0 := A0) (by omega) ⟨r1, Fs1, g1, PFv.val (h4.later c1) fun dy r4 _ h7 => fun vy H4 Fs4 c4 g4 q4 _ => ?_⟩
  obtain ⟨z, hz, h8⟩ := h7.lift
  obtain ⟨d2, e4, h9⟩ := h8.lift
  obtain ⟨d', e5, h10⟩ := h9.lift
  obtain ⟨a, b, rfl, rfl, hz2⟩ := inplD_eq hz
  obtain ⟨q', hσ', hF4, o4⟩ := getM_at g4 e4
  rw [hσ] at hσ'
  cases hσ'
  obtain ⟨ds4, ki', j4, rfl, ek, hj4, rfl⟩ := setD_eq e5
  cases ek
  obtain ⟨xs4, ds4', e', hx4, rs4⟩ := o4
  cases e'
  refine ⟨a, b, rep_int h6, rep_int q4, ?_⟩
  rcases hz2 with ⟨ho, rfl⟩ | ⟨ho, rfl⟩
  · exact .inl ⟨ho, q, xs4, ki, j4, rfl, rep_int q1, hx4, by rw [rs4.length]; exact hj4, h10.nx (c4.trans (chn_put hF4)) (put_list g4 hF4 (rs4.set j4 (.int _)))⟩
  · exact .inr ⟨ho, q, xs4, ki, j4, rfl, rep_int q1, hx4, by rw [rs4.length]; exact hj4, h10.nx (c4.trans (chn_put hF4)) (put_list g4 hF4 (rs4.set j4 (.int _)))⟩
end
end Cw
end

section
namespace Cw
open PySem PySem.Spec PyProof.Rows L2

def noComp : Expr → Bool
  | .ListComp .. => false
  | .SetComp .. => false
  | .DictComp .. => false
  | _ => true
def isRngE : ME → Bool
  | .rng .. => true
  | _ => false
def isLook : Md → Bool
  | .look => true
  | _ => false
def kOk (P : CkP) (k : Nat) (m : ME) : Bool := !(k == 1) || frE P m == 1
def nmOk (P : CkP) (sc : Scope) (i : Nat) (x : Str) : Bool := decide (P.N[i]? = some x) && vis sc x && noDbg x
mutual
def ckS (P : CkP) (sc : Scope) : MS → Stmt → Bool
  | .asg i k _ m, s => match s with
    | .Assign ts e _ => (match ts with
      | [t] => (match t with
        | .Name x _ => okTg P.N sc i x && kOk P k m && (!isIt m && ckE P m sc e)
        | _ => false)
      | _ => false)
    | _ => false
  | .asgT is _ m, s => match s with
    | .Assign ts e _ => (match ts with
      | [t] => tgIs (okTg P.N sc) (.tup (is.map .nm)) t && !isTupE e && (!isIt m && ckE P m sc e)
      | _ => false)
    | _ => false
  | .set i mk _ m, s => match s with
    | .Assign ts e _ => (match ts with
      | [t] => (match t with
        | .Subscript o ix _ => (match o with
          | .Name x _ => nmOk P sc i x && notSlice ix && (!isIt mk && ckE P mk sc ix) && (!isIt m && ckE P m sc e)
          | _ => false)
        | _ => false)
      | _ => false)
    | _ => false
  | .aug i op _ m, s => match s with
    | .AugAssign t o e _ => (match t with
      | .Name x _ => okTg P.N sc i x && decide (o = opOf op) && (!isIt m && ckE P m sc e)
      | _ => false)
    | _ => false
  | .augS i mk op _ m, s => match s with
    | .AugAssign t o e _ => (match t with
      | .Subscript b ix _ => (match b with
        | .Name x _ => nmOk P sc i x && notSlice ix && decide (o = opOf op) && (!isIt mk && ckE P mk sc ix) && (!isIt m && ckE P m sc e)
        | _ => false)
      | _ => false)
    | _ => false
  | .app i _ m, s => match s with
    | .Expr e _ => (match e with
      | .Call f args kws cp => (match f with
        | .Attribute o at_ ap => (match o with
          | .Name x _ => nmOk P sc i x && decide (at_ = "append") && kws.isEmpty && (ap.endLine == cp.line) && (match args with
            | [a] => notStar a && (!isIt m && ckE P m sc a)
            | _ => false)
          | _ => false)
        | _ => false)
      | _ => false)
    | _ => false
  | .exp _ m, s => match s with
    | .Expr e _ => noComp e && (!isIt m && ckE P m sc e)
    | _ => false
  | .ife _ c a b, s => match s with
    | .If t x y _ => (!isIt c && ckE P c sc t) && ckSs P sc a x && ckSs P sc b y
    | _ => false
  | .for t md it body, s => match s with
    | .For tg iter b orelse _ => orelse.isEmpty && notSet iter && tgIs (okTg P.N sc) t tg && (!tupIt it || isTupE tg) && (!isLook md || isRngE it) && ckE P it sc iter && ckSs P sc body b
    | _ => false
  | .whl _ c body, s => match s with
    | .While t b orelse _ => orelse.isEmpty && (!isIt c && ckE P c sc t) && ckSs P sc body b
    | _ => false
  | .ret k md m, s => match s with
    | .Return e _ => (match e with
      | some e => kOk P k m && (!isIt m && ckE P m sc e)
      | none => decide (k = 0) && (match md with
        | .keep [] => true
        | _ => false) && (match m with
        | .con d => isNon d
        | _ => false))
    | _ => false
  | .retv i, s => match s with
    | .Return e _ => (match e with
      | some e => (match e with
        | .Name x _ => nmOk P sc i x
        | _ => false)
      | none => false)
    | _ => false
  | .brk, s => match s with
    | .Break _ => true
    | _ => false
  | .cnt, s => match s with
    | .Continue _ => true
    | _ => false
  | .pas, s => match s with
    | .Pass _ => true
    | .Expr e _ => (match e with
      | .Constant c _ _ => (match c with
        | .str _ => true
        | _ => false)
      | _ => false)
    | _ => false
  | .bot, _ => true
def ckSs (P : CkP) (sc : Scope) : List MS → List Stmt → Bool
  | [], ss => ss.isEmpty
  | m :: ms, ss => match ss with
    | s :: ss => ckS P sc m s && ckSs P sc ms ss
    | [] => false
end
structure SOk (P : CkP) (EA : EAt) (call : Nat → List D → OutC) (X : Cx) (sc : Scope) (W : WX) : Prop extends XOk P EA call X sc W where
  own : PassesOwn (model X.prog X.w) X.A X.env X.xe
  kind : X.env.scope.kind = .function
  fnT : ∀ x, X.fn x = true
section
variable {P : CkP} {EA : EAt} {call : Nat → List D → OutC} {X : Cx} {sc : Scope} {W : WX} {A0 : Prot}
theorem tex_of {m : ME} {e : Expr} (x : XOk P EA call X sc W) (h : ckE P m sc e = true) (hi : isIt m = false) : PE X e (TEx X.K EA W (frE P m) (evE P.T call m)) :=
  ⟨fun pins s σ H Q I ⟨A0, q⟩ => (ckE_ok m (A0 := A0) x h hi).run pins s σ H Q I q⟩
theorem ttx_of {m : ME} {e : Expr} (x : XOk P EA call X sc W) (h : ckE P m sc e = true) (hi : isIt m = false) : PT X e (TTx X.K EA W fun r => tru (evE P.T call m r)) :=
  ⟨fun pins s σ H Q I ⟨A0, q⟩ => (ckT_ok m (A0 := A0) x h hi).run pins s σ H Q I q⟩
theorem okTg_fn {i : Nat} {y : Str} (x : SOk P EA call X sc W) (ho : okTg P.N sc i y = true) : TgName X i y := by
  unfold okTg at ho
  simp only [Bool.and_eq_true, decide_eq_true_eq] at ho
  have h2 := ho.2
  refine ⟨by rw [x.N]; exact ho.1, ?_, .inl (x.fnT y)⟩
  rw [x.sc]
  split at h2
  · rename_i e; exact .inl e
  · rename_i e; exact .inr e
  · cases h2
theorem kOk_of {k : Nat} {m : ME} (h : kOk P k m = true) : k = 1 → frE P m = 1 := fun e => by
  subst e
  simpa [kOk] using h
theorem nm_of {i : Nat} {y : Str} (x : XOk P EA call X sc W) (h : nmOk P sc i y = true) : X.N[i]? = some y ∧ Vis X.env.scope y ∧ (y == ("__debug__" : Str)) = false ∧ (y == ("__classdict__" : Str)) = false := by
  simp only [nmOk, Bool.and_eq_true, decide_eq_true_eq] at h
  exact ⟨by rw [x.N]; exact h.1.1, vis_of x h.1.2, (dbg1 h.2).1, (dbg1 h.2).2⟩
/-- name = e, a comprehension or not -/
theorem asg_any {m : ME} {e : Expr} {i : Nat} {y : Str} {p pos : Pos} (x : SOk P EA call X sc W) (ht : okTg P.N sc i y = true) (h : ckE P m sc e = true) (hi : isIt m = false) :
    PS X (.Assign [.Name y p] e pos) (tAsg (TEx X.K EA W (frE P m) (evE P.T call m)) (gName i)) := by
  have tg := okTg_fn x ht
  have nd : X.N.Nodup := by rw [x.N]; exact x.nd
  have hk : X.env.scope.kind = .function := x.kind
  have pe := tex_of x.toXOk h hi
  by_cases hc : noComp e = true
  · exact ps_set nd tg.at_ tg.loc pe (by cases e <;> first | rfl | (simp [noComp] at hc)) tg.fn
  · cases e <;> simp only [noComp, not_true_eq_false, Bool.false_eq_true, not_false_eq_true] at hc
    case ListComp elt gs scope cpos =>
      have hsw : swapsWith (.ListComp elt gs scope cpos) (some (.Name y p)) pos.line X.env = pure (X.env.blockKind == .function && X.env.kindOf y == some .local && p.line == cpos.line && !(scope.names.any fun (n, k) => n == y && (k == .local || k == .cell))) := rfl
      cases hb : (X.env.blockKind == .function && X.env.kindOf y == some .local && p.line == cpos.line && !(scope.names.any fun (n, k) => n == y && (k == .local || k == .cell))) with
      | false => exact ps_set nd tg.at_ tg.loc pe (by rw [hsw, hb]) tg.fn
      | true =>
        rw [hb] at hsw
        simp only [Bool.and_eq_true, beq_iff_eq] at hb
        have hyl : X.env.scope.names.lookup y = some .local := hb.1.1.2
        cases m <;> simp only [ckE, Bool.false_eq_true] at h
        case comp elt' t it c =>
          match gs, h, hsw with
          | [⟨tg', iter, ifs, n⟩], h, hsw =>
            simp only [Bool.and_eq_true, decide_eq_true_eq] at h
            obtain ⟨⟨⟨⟨⟨⟨⟨rfl, h1⟩, h2⟩, h3⟩, h4⟩, h5⟩, h6⟩, h7⟩ := h
            have ok : BlkOk X.N X.env.scope scope (ownOf P.N (tgS t)) := by rw [x.N, x.sc]; exact blkOk_by h2
            have gs : ∀ (s : Shared) (H : Hp) (C : Addr) (cl : List (Str × Addr)) (fp : List Addr), PG (X.blk s H scope (compEnvC scope cl C X.env) fp) tg' (TGv X.K t) := fun s H C cl fp =>
              pg_of (X := X.blk s H scope (compEnvC scope cl C X.env) fp) (by show X.N.Nodup; rw [x.N]; exact x.nd) x.calm (fun i y => okTg_of x.toXOk s H C cl fp) h3
            refine PS.imp (ps_setLc x.calm nd tg.at_ hyl hsw (tt := TTy X.K EA (evC P.T call c)) (te := TEy X.K EA (frE P elt') (evE P.T call elt')) (wi := TIx X.K EA W fun r => (evE P.T call it r).bind fun x r1 => lift (itemsD x) r1) ⟨fun pins s σ H Q I ⟨A0, q⟩ => (ckI_ok it (A0 := A0) x.toXOk h5 tg' (fun z => by simpa [z] using h4)).run pins s σ H Q I q⟩ ok gs
              (fun s H C cl fp => ckC_ok c (x.toXOk.blk s H scope C cl fp) h6) (fun s H C cl fp => tey_of fun A0 => ckE_ok elt' (x.toXOk.blk s H scope C cl fp) h7.2 (by simpa using h7.1)) (fold_ok h1 _)) fun E σ H q => ?_
            obtain ⟨A0, q⟩ := q
            rw [own_ix]
            have z := tv_comp (ke := frE P elt') q
            exact ⟨A0, z⟩
        case comp2 elt' t it c t1 it1 c1 =>
          match gs, h, hsw with
          | [⟨tg', iter, ifs, n⟩, ⟨tg1, iter1, ifs1, n1⟩], h, hsw =>
            simp only [Bool.and_eq_true, decide_eq_true_eq] at h
            obtain ⟨⟨⟨⟨⟨⟨⟨⟨⟨⟨⟨⟨⟨rfl, rfl⟩, h1⟩, h1'⟩, h2⟩, h3⟩, h3'⟩, h4⟩, h4'⟩, h5⟩, h6⟩, h5'⟩, h6'⟩, h7⟩ := h
            have ok : BlkOk X.N X.env.scope scope (ownOf P.N (tgS t ++ tgS t1)) := by rw [x.N, x.sc]; exact blkOk_by h2
            have gs : ∀ {t : Tg} {tg : Expr}, tgIs (okTg P.N scope) t tg = true → ∀ (s : Shared) (H : Hp) (C : Addr) (cl : List (Str × Addr)) (fp : List Addr), PG (X.blk s H scope (compEnvC scope cl C X.env) fp) tg (TGv X.K t) := fun ht s H C cl fp =>
              pg_of (X := X.blk s H scope (compEnvC scope cl C X.env) fp) (by show X.N.Nodup; rw [x.N]; exact x.nd) x.calm (fun i y => okTg_of x.toXOk s H C cl fp) ht
            refine PS.imp (ps_setLc2 x.calm nd tg.at_ hyl hsw (tt := TTy X.K EA (evC P.T call c)) (tt1 := TTy X.K EA (evC P.T call c1)) (wi1 := TIy X.K EA fun r => (evE P.T call it1 r).bind fun x r1 => lift (itemsD x) r1) (te := TEy X.K EA (frE P elt') (evE P.T call elt')) (wi := TIx X.K EA W fun r => (evE P.T call it r).bind fun x r1 => lift (itemsD x) r1) ⟨fun pins s σ H Q I ⟨A0, q⟩ => (ckI_ok it (A0 := A0) x.toXOk h5 tg' (fun z => by simpa [z] using h4)).run pins s σ H Q I q⟩ ok (vs1 := tgS t1) (by rw [own_ix]; exact fun i hi => List.mem_append_right _ hi) (gs h3)
              (fun s H C cl fp => ckC_ok c (x.toXOk.blk s H scope C cl fp) h6) (fun s H C cl fp => tiy_of fun A0 => ckI_ok it1 (x.toXOk.blk s H scope C cl fp) h5' tg1 (fun z => by simpa [z] using h4')) (gs h3')
              (fun s H C cl fp => ckC_ok c1 (x.toXOk.blk s H scope C cl fp) h6') (fun s H C cl fp => tey_of fun A0 => ckE_ok elt' (x.toXOk.blk s H scope C cl fp) h7.2 (by simpa using h7.1)) (fold_ok h1 _) (fold_ok h1')) fun E σ H q => ?_
            obtain ⟨A0, q⟩ := q
            rw [own_ix]
            have z := tv_comp2 (ke := frE P elt') q
            exact ⟨A0, z⟩
    case SetComp => cases m <;> simp [ckE] at h
    case DictComp => cases m <;> simp [ckE] at h
mutual
theorem ckS_ok (x : SOk P EA call X sc W) : ∀ (m : MS) {s : Stmt}, ckS P sc m s = true → PS X s (TSv X.K A0 EA W (evS P.T call m))
  | .asg i k md m, s, h => by
    cases s <;> simp only [ckS, Bool.false_eq_true] at h
    rename_i ts e pos
    match ts, h with
    | [t], h =>
      cases t <;> simp only [Bool.false_eq_true, Bool.and_eq_true] at h
      obtain ⟨⟨h1, h2⟩, h3⟩ := h
      exact ts_asg (kOk_of h2) (asg_any x h1 h3.2 (by simpa using h3.1))
  | .asgT is md m, s, h => by
    cases s <;> simp only [ckS, Bool.false_eq_true] at h
    rename_i ts e pos
    match ts, h with
    | [t], h =>
      simp only [Bool.and_eq_true] at h
      obtain ⟨⟨h1, h2⟩, h3⟩ := h
      have g := pg_of (X := X) (by rw [x.N]; exact x.nd) x.calm (fun i y => okTg_fn x) h1
      cases t <;> simp only [tgIs, Bool.false_eq_true] at h1
      exact ts_asgT (ps_asg (tex_of x.toXOk h3.2 (by simpa using h3.1)) g (by cases e <;> rfl) (by cases e <;> first | rfl | (simp [isTupE] at h2)))
  | .set i mk md m, s, h => by
    cases s <;> simp only [ckS, Bool.false_eq_true] at h
    rename_i ts e pos
    match ts, h with
    | [t], h =>
      cases t <;> simp only [Bool.false_eq_true] at h
      rename_i o ix tp
      cases o <;> simp only [Bool.false_eq_true, Bool.and_eq_true] at h
      obtain ⟨⟨⟨h1, h2⟩, h3⟩, h4⟩ := h
      obtain ⟨n1, n2, n3, n4⟩ := nm_of x.toXOk h1
      exact ts_set n1 n2 n3 n4 (tex_of x.toXOk h4.2 (by simpa using h4.1)) (tex_of x.toXOk h3.2 (by simpa using h3.1)) (by cases e <;> rfl) (by cases e <;> rfl) (by intro v; cases ix <;> first | rfl | (simp [notSlice] at h2))
  | .aug i op md m, s, h => by
    cases s <;> simp only [ckS, Bool.false_eq_true] at h
    rename_i t o e pos
    cases t <;> simp only [Bool.false_eq_true, Bool.and_eq_true, decide_eq_true_eq] at h
    obtain ⟨⟨h1, rfl⟩, h3⟩ := h
    exact ts_aug (by rw [x.N]; exact x.nd) (okTg_fn x h1) (tex_of x.toXOk h3.2 (by simpa using h3.1))
  | .augS i mk op md m, s, h => by
    cases s <;> simp only [ckS, Bool.false_eq_true] at h
    rename_i t o e pos
    cases t <;> simp only [Bool.false_eq_true] at h
    rename_i b ix tp
    cases b <;> simp only [Bool.false_eq_true, Bool.and_eq_true, decide_eq_true_eq] at h
    obtain ⟨⟨⟨⟨h1, h2⟩, rfl⟩, h3⟩, h4⟩ := h
    obtain ⟨n1, n2, n3, n4⟩ := nm_of x.toXOk h1
    exact ts_augS n1 n2 n3 n4 (tex_of x.toXOk h4.2 (by simpa using h4.1)) (tex_of x.toXOk h3.2 (by simpa using h3.1)) (by intro a b c; cases ix <;> first | rfl | (simp [notSlice] at h2))
  | .app i md m, s, h => by
    cases s <;> simp only [ckS, Bool.false_eq_true] at h
    rename_i e pos
    cases e <;> simp only [Bool.false_eq_true] at h
    rename_i f args kws cp
    cases f <;> simp only [Bool.false_eq_true] at h
    rename_i o at_ ap
    cases o <;> simp only [Bool.false_eq_true, Bool.and_eq_true, decide_eq_true_eq] at h
    obtain ⟨⟨⟨⟨h1, rfl⟩, h3⟩, h4⟩, h5⟩ := h
    obtain ⟨n1, n2, n3, n4⟩ := nm_of x.toXOk h1
    have hkw : kws = [] := by simpa using h3
    subst hkw
    match args, h5 with
    | [a], h5 =>
      simp only [Bool.and_eq_true] at h5
      exact ts_app n1 n2 n3 n4 (tex_of x.toXOk h5.2.2 (by simpa using h5.2.1)) h5.1 h4
  | .exp md m, s, h => by
    cases s <;> simp only [ckS, Bool.false_eq_true, Bool.and_eq_true] at h
    rename_i e pos
    exact ts_exp (by cases e <;> first | rfl | (simp [noComp] at h)) (tex_of x.toXOk h.2.2 (by simpa using h.2.1))
  | .ife md c a b, s, h => by
    cases s <;> simp only [ckS, Bool.false_eq_true, Bool.and_eq_true] at h
    obtain ⟨⟨h1, h2⟩, h3⟩ := h
    exact ts_if (ttx_of x.toXOk h1.2 (by simpa using h1.1)) (ckSs_ok x a h2) (ckSs_ok x b h3)
  | .for t md it body, s, h => by
    cases s <;> simp only [ckS, Bool.false_eq_true, Bool.and_eq_true] at h
    rename_i tg iter b orelse pos
    obtain ⟨⟨⟨⟨⟨⟨h1, h2⟩, h3⟩, h4⟩, h5⟩, h6⟩, h7⟩ := h
    have ho : orelse = [] := by simpa using h1
    subst ho
    have g := pg_of (X := X) (by rw [x.N]; exact x.nd) x.calm (fun i y => okTg_fn x) h3
    by_cases hl : md = .look
    · subst hl
      have h5' : isRngE it = true := by simpa [isLook] using h5
      cases it <;> simp only [isRngE, Bool.false_eq_true] at h5'
      exact ts_for x.own x.calm (wi := TIrx X.K EA W _) ⟨fun pins s σ H Q I ⟨A0, q⟩ => (ckR_ok (A0 := A0) x.toXOk h6 tg).run pins s σ H Q I q⟩ (fun σ H R q => ti_impL q) g (ckSs_ok x body h7) (fold_ok h2 _)
    · exact ts_for x.own x.calm (wi := TIx X.K EA W _) ⟨fun pins s σ H Q I ⟨A0, q⟩ => (ckI_ok it (A0 := A0) x.toXOk h6 tg (fun z => by simpa [z] using h4)).run pins s σ H Q I q⟩ (fun σ H R q => ti_imp hl q) g (ckSs_ok x body h7) (fold_ok h2 _)
  | .whl md c body, s, h => by
    cases s <;> simp only [ckS, Bool.false_eq_true, Bool.and_eq_true] at h
    rename_i t b orelse pos
    obtain ⟨⟨h1, h2⟩, h3⟩ := h
    have ho : orelse = [] := by simpa using h1
    subst ho
    exact ts_while x.own (ttx_of x.toXOk h2.2 (by simpa using h2.1)) (ckSs_ok x body h3)
  | .ret k md m, s, h => by
    cases s <;> simp only [ckS, Bool.false_eq_true] at h
    rename_i e pos
    cases e with
    | some e =>
      simp only [Bool.and_eq_true] at h
      exact ts_ret (kOk_of h.1) (tex_of x.toXOk h.2.2 (by simpa using h.2.1))
    | none =>
      simp only [Bool.and_eq_true, decide_eq_true_eq] at h
      obtain ⟨⟨rfl, h2⟩, h3⟩ := h
      split at h2
      · cases m <;> simp only [Bool.false_eq_true] at h3
        rename_i d
        have hd : d = .none := by cases d <;> simp_all [isNon]
        subst hd
        exact ts_retN
      · cases h2
  | .retv i, s, h => by
    cases s <;> simp only [ckS, Bool.false_eq_true] at h
    rename_i e pos
    cases e with
    | none => cases h
    | some e =>
      cases e <;> simp only [Bool.false_eq_true] at h
      obtain ⟨n1, n2, n3, n4⟩ := nm_of x.toXOk h
      exact ts_retv n1 n2 n3 n4
  | .brk, s, h => by
    cases s <;> simp only [ckS, Bool.false_eq_true] at h
    exact ts_brk
  | .cnt, s, h => by
    cases s <;> simp only [ckS, Bool.false_eq_true] at h
    exact ts_cnt
  | .pas, s, h => by
    cases s <;> simp only [ckS, Bool.false_eq_true] at h
    · rename_i e pos
      cases e <;> simp only [Bool.false_eq_true] at h
      rename_i c k p
      cases c <;> simp only [Bool.false_eq_true] at h
      exact ts_pass ps_doc
    · exact ts_pass ps_pass
  | .bot, s, h => ts_bot
theorem ckSs_ok (x : SOk P EA call X sc W) : ∀ (ms : List MS) {ss : List Stmt}, ckSs P sc ms ss = true → PSs X ss (TSv X.K A0 EA W (evSs P.T call ms))
  | [], ss, h => by
    cases ss <;> simp only [ckSs, List.isEmpty_nil, List.isEmpty_cons, Bool.false_eq_true] at h
    exact ts_nil
  | m :: ms, ss, h => by
    cases ss with
    | nil => simp only [ckSs, Bool.false_eq_true] at h
    | cons s ss =>
      simp only [ckSs, Bool.and_eq_true] at h
      exact ts_cons (ckS_ok x m h.1) (ckSs_ok x ms h.2)
end
end
end Cw
end

section
namespace Cw
open PySem PySem.Spec PyProof.Rows L2

def scOk (N ps : List Str) (sc : Scope) : Bool :=
  (match sc.kind with | .function => true | _ => false) && !sc.isCoroutine && !sc.isGenerator && decide N.Nodup && decide (N.take ps.length = ps) && (ps.all fun x => match sc.names.lookup x with | some .local => true | some .cell => true | _ => false) && (sc.names.all fun y => match y.2 with | .free => false | _ => true)
theorem scOk_of {N ps : List Str} {sc : Scope} (h : scOk N ps sc = true) : FnScope N ps sc := by
  simp only [scOk, Bool.and_eq_true, decide_eq_true_eq, List.all_eq_true, Bool.not_eq_true'] at h
  obtain ⟨⟨⟨⟨⟨⟨h1, h2⟩, h3⟩, h4⟩, h5⟩, h6⟩, h7⟩ := h
  refine ⟨?_, h2, h3, h4, h5, fun x hx => ?_, fun y hy e => ?_⟩
  · split at h1
    · assumption
    · cases h1
  · have q := h6 x hx
    split at q
    · rename_i e; exact .inl e
    · rename_i e; exact .inr e
    · cases q
  · have q := h7 y hy
    rw [e] at q
    cases q
/-- a def's text is fn -/
def fnCk (P : CkP) (fn : Fn) (ps : List Str) (sc : Scope) (body : List Stmt) : Bool :=
  scOk P.N ps sc && decide (fn.np = ps.length) && decide (fn.ns = P.N.length) && (fn.io.all fun i => decide (i < fn.np)) && ckSs P sc fn.body body
theorem outs_get {r : Env} : ∀ {io : List Nat} {os : List D}, outsE r io = some os → os.length = io.length ∧ ∀ (j i : Nat), io[j]? = some i → ∃ d, r[i]? = some (.mut d) ∧ os[j]? = some d
  | [], os, h => by
    simp only [outsE, Option.some.injEq] at h
    subst h
    exact ⟨rfl, fun j i e => by simp at e⟩
  | i :: io, os, h => by
    unfold outsE at h
    split at h
    · rename_i d e
      obtain ⟨os', h1, rfl⟩ := Option.map_eq_some_iff.mp h
      obtain ⟨h2, h3⟩ := outs_get h1
      refine ⟨by simp [h2], fun j i' e' => ?_⟩
      cases j with
      | zero => simp at e'; subst e'; exact ⟨d, e, rfl⟩
      | succ j => simpa using h3 j i' (by simpa using e')
    · cases h
section
variable {K : Fr} {S : Addr → Prop} {σ' : L2.St} {H H' : Hp} {r' : Env} {Fs' : List (Option Addr)} {fn : Fn} {vs : List V} {os : List D}
theorem outs_ok (G : Good K ⟨S, fun _ => False⟩ σ' H' r' Fs') (c : Chn ⟨S, fun _ => False⟩ H H' (fsOf fn vs) Fs') (h : outsE r' fn.io = some os) : OutsOk K H' S fn vs os ∧ os.length = fn.io.length := by
  obtain ⟨h1, h2⟩ := outs_get h
  refine ⟨fun j i e => ?_, h1⟩
  obtain ⟨d, h3, h4⟩ := h2 j i e
  obtain ⟨a, q1, _, q3, q4⟩ := G.chg i d h3
  have q := c.mt i a q1 q3
  rw [fsOf_get] at q
  split at q
  · simp only [Option.some.injEq] at q
    split at q
    · unfold addrOf at q
      split at q
      · rename_i a' e'
        cases q
        exact ⟨a, d, e', h4, q4.mono fun x z => .inl z⟩
      · cases q
    · cases q
  · cases q
/-- a body's end -/
theorem fin_ok {EA : EAt} {f : Nat} {o : Out Flow} {Q : VK} {E : XK} {ds : List D} {call' : Nat → List D → OutC} (hcall : call' f ds = finE fn o) {σ0 : L2.St}
    (G0 : Good K ⟨S, fun _ => False⟩ σ0 H (startE fn ds) (fsOf fn vs))
    (h : match call' f ds with
      | .ok d os => ∀ v H', Keep (inF (fsOf fn vs)) H H' → ResOk K H H' S fn.fresh v d → OutsOk K H' S fn vs os → os.length = fn.io.length → Q v H'
      | .exc x os => ∀ cls dx H', Keep (inF (fsOf fn vs)) H H' → OutsOk K H' S fn vs os → os.length = fn.io.length → EA x cls dx H' → E cls dx H'
      | .bad => False) : PFv K ⟨S, fun _ => False⟩ EA (fun cls d _ H => E cls d H) (fsOf fn vs) H { nx := fun _ H' => Q .non H', rt := Q } o := by
  rw [hcall] at h
  cases o with
  | bad => exact h.elim
  | exc x r' =>
    simp only [finE] at h
    intro cls dx σ' H' Fs' c g e
    cases q : outsE r' fn.io with
    | none => rw [q] at h; exact h.elim
    | some os =>
      rw [q] at h
      obtain ⟨z1, z2⟩ := outs_ok g c q
      exact h cls dx H' c.kp z1 z2 e
  | ok fl r' =>
    intro σ' H' Fs' c g
    cases fl with
    | brk => exact h.elim
    | cnt => exact h.elim
    | nx =>
      simp only [finE] at h
      cases q : outsE r' fn.io with
      | none => rw [q] at h; exact h.elim
      | some os =>
        rw [q] at h
        obtain ⟨z1, z2⟩ := outs_ok g c q
        exact h .non H' c.kp (ResOk.atom .non fun _ e => nomatch e) z1 z2
    | ret k d =>
      simp only [finE] at h
      intro v rv rn
      by_cases hc : (fn.fresh == 0 || k == 1 || imm d) = true
      · rw [if_pos hc] at h
        cases q : outsE r' fn.io with
        | none => rw [q] at h; exact h.elim
        | some os =>
          rw [q] at h
          obtain ⟨z1, z2⟩ := outs_ok g c q
          refine h v H' c.kp ⟨rv, fun hf ds' e => ?_⟩ z1 z2
          subst e
          have hk : k = 1 := by
            simp only [Bool.or_eq_true, beq_iff_eq] at hc
            rcases hc with (hc | hc) | hc
            · omega
            · exact hc
            · cases hc
          obtain ⟨a, xs, e1, e2, e3, e4⟩ := rn hk ds' rfl
          refine ⟨a, xs, e1, ?_, e3, e4⟩
          rcases e2 with e2 | ⟨e2, n⟩
          · exact e2
          · exfalso
            obtain ⟨i, hi⟩ := List.mem_iff_getElem?.mp e2
            rcases G0.emp i a hi with ⟨d', z⟩ | ⟨d', z⟩
            · rw [startE_get] at z
              split at z
              · simp only [Option.some.injEq] at z
                split at z <;> cases z
              · split at z <;> cases z
            · obtain ⟨b, q1, _, q3, _⟩ := G0.chg i d' z
              rw [hi] at q1; cases q1
              exact n q3
      · rw [if_neg hc] at h; exact h.elim
end
/-- the facts of a def that the top tells -/
structure FnTab (K : Fr) (mg : Str → Option Value) (P : CkP) (x : Str) (fn : Fn) : Prop where
  ex : ∃ (fa : Addr) (fd : FuncData) (nm qual : Str) (params : Arguments) (body : List Stmt) (scope : Scope) (N ps : List Str), FunD K nm qual params body scope [] [] fa fd ∧ mg x = some (.ref fa) ∧ L2.Binds K fd ps [] ∧ fnCk { P with N := N } fn ps scope body = true
section
variable {Pr : Program} {w : World} {K : Fr} {mg : Str → Option Value} {base : Heap} {EA : EAt} {P : CkP}
/-- one def at one depth, its callees at the depth below -/
theorem fn_ok1 {n f : Nat} {fn : Fn} {fa : Addr} {fd : FuncData} {nm qual : Str} {params : Arguments} {body : List Stmt} {scope : Scope} {N ps : List Str}
    (F : FunD K nm qual params body scope [] [] fa fd) (hck : fnCk { P with N := N } fn ps scope body = true) (hT : P.T f = some fn)
    (blt : ∀ x, P.blt x = true → mg x = none) (cst : ∀ x d, P.cst x = some d → ∃ v u, mg x = some u ∧ RelV v u ∧ (∀ (H : Hp) S, Rep K H S v d) ∧ ∀ ds, d ≠ .list ds)
    (ih : ∀ x f fn, P.fn x = some f → P.T f = some fn → ∃ fa fd ps, FnOk Pr w K mg base (L2.CX Pr w) n fa fd ps (spF K EA (callF P.T n) f fn) ∧ mg x = some (.ref fa) ∧ PySem.W.keepIn K (.ref fa) = true ∧ L2.Binds K fd ps []) :
    FnOk Pr w K mg base (L2.CX Pr w) (n + 1) fa fd ps (spF K EA (callF P.T (n + 1)) f fn) := by
  simp only [fnCk, Bool.and_eq_true, decide_eq_true_eq] at hck
  obtain ⟨⟨⟨⟨h1, h2⟩, h3⟩, h4⟩, h5⟩ := hck
  have S := scOk_of h1
  refine F.ok S (fun vs H Q E ⟨_, _, h, _⟩ => h.trans h2) fun cdv A outer s H vs Q E hr ⟨S0, ds, hv, hd, G, hm⟩ => ?_
  have x : SOk { P with N := N } EA (callF P.T n) (cxOf (L2.CX Pr w) Pr w K mg base N qual scope fa cdv A outer s H E) scope (fun cls d _ H => E cls d H) := {
    N := rfl
    nd := S.nd
    calm := rfl
    hu := by have := hr.un; show (A.deeper _).units + 70 < cLine; omega
    sc := rfl
    tk := takes_of rfl rfl rfl rfl
    blt := blt
    fns := fun x f fn e1 e2 => by
      obtain ⟨fa', fd', ps', F', m', k', b'⟩ := ih x f fn e1 e2
      exact ⟨n, fa', fd', ps', F', hr, m', k', b'⟩
    cst := cst
    own := passes_of rfl
    kind := S.kind
    fnT := fun _ => rfl }
  refine ⟨_, ckSs_ok (A0 := ⟨S0, fun _ => False⟩) x fn.body h5, ?_⟩
  have e0 : start N vs = vs.map some ++ List.replicate (fn.ns - vs.length) none := by rw [h3]; rfl
  refine ⟨startE fn ds, fsOf fn vs, by rw [e0]; exact G, ?_⟩
  refine fin_ok (call' := callF P.T (n + 1)) (f := f) ?_ G hm
  show callF P.T (n + 1) f ds = _
  unfold callF
  simp only [hT]
  rw [if_pos hd]
/-- all defs, at every depth -/
theorem fn_all (tab : ∀ x f fn, P.fn x = some f → P.T f = some fn → FnTab K mg P x fn)
    (blt : ∀ x, P.blt x = true → mg x = none) (cst : ∀ x d, P.cst x = some d → ∃ v u, mg x = some u ∧ RelV v u ∧ (∀ (H : Hp) S, Rep K H S v d) ∧ ∀ ds, d ≠ .list ds) :
    ∀ n x f fn, P.fn x = some f → P.T f = some fn → ∃ fa fd ps, FnOk Pr w K mg base (L2.CX Pr w) n fa fd ps (spF K EA (callF P.T n) f fn) ∧ mg x = some (.ref fa) ∧ PySem.W.keepIn K (.ref fa) = true ∧ L2.Binds K fd ps []
  | 0, x, f, fn, h1, h2 => by
    obtain ⟨fa, fd, nm, qual, params, body, scope, N, ps, F, hm, hb, hck⟩ := (tab x f fn h1 h2).ex
    exact ⟨fa, fd, ps, ⟨fun vs H Q E h => h.choose_spec.choose_spec.2.2.2.elim, fun A outer s H args us vs Q E _ _ _ _ h => h.choose_spec.choose_spec.2.2.2.elim⟩, hm, F.kp, hb⟩
  | n + 1, x, f, fn, h1, h2 => by
    obtain ⟨fa, fd, nm, qual, params, body, scope, N, ps, F, hm, hb, hck⟩ := (tab x f fn h1 h2).ex
    exact ⟨fa, fd, ps, fn_ok1 F hck h2 blt cst fun x f fn e1 e2 => fn_all tab blt cst n x f fn e1 e2, hm, F.kp, hb⟩
end
end Cw
end

section
namespace Cw
open PySem PySem.Spec PyProof.Rows L2

theorem mem_lookup2 {β : Type} : ∀ {l : List (Str × β)} {x : Str} {b : β}, l.lookup x = some b → (x, b) ∈ l
  | [], _, _, h => by simp at h
  | (y, c) :: l, x, b, h => by
    by_cases e : x = y
    · subst e
      simp at h
      subst h
      exact List.mem_cons_self
    · have e' : (x == y) = false := by simpa using e
      simp only [List.lookup_cons, e'] at h
      exact List.mem_cons_of_mem _ (mem_lookup2 h)
/-- an exception that the defs may let out, of whatever world -/
def CXe : CXT := fun outer H s E u s' => ∃ (P : Program) (w : World), L2.CX P w outer H s E u s'
theorem cxe_no : ∀ (H : Hp) (s : Shared) (e : Value) (s' : Shared), CXe [] H s (fun _ _ _ => False) e s' → False :=
  fun H s e s' ⟨P, w, a, B, H', cls, d, _, _, _, _, _, _, _, z⟩ => z
theorem FnOk.cxe {Pr : Program} {w : World} {K : Fr} {mg : Str → Option Value} {base : Heap} {k : Nat} {f : Addr} {fd : FuncData} {ps : List Str} {sp : Sp} (F : FnOk Pr w K mg base (L2.CX Pr w) k f fd ps sp) : FnOk Pr w K mg base CXe k f fd ps sp :=
  ⟨F.len, fun A outer s H args us vs Q E hr e0 hb hv hs => codeAny_mono (F.run A outer s H args us vs Q E hr e0 hb hv hs) fun r s' h => by
    cases r with
    | error e => exact ⟨Pr, w, h⟩
    | ok fl => cases fl <;> exact h⟩
theorem ints_rep {K : Fr} {H : Hp} {S : Addr → Prop} : ∀ ns : List Int, Reps K H S (ns.map V.int) (ns.map PyData.int)
  | [] => .nil
  | n :: ns => .cons (.int n) (ints_rep ns)
/-- a frame at its start, nothing handed in to be changed -/
theorem good0 {K : Fr} {H : Hp} {S : Addr → Prop} {fn : Fn} {vs : List V} {ds : List D} (hio : fn.io = []) (hl : vs.length ≤ fn.ns) (r : Reps K H S vs ds) (al : ∀ a, S a → H a ≠ none) :
    Good K ⟨S, fun _ => False⟩ (vs.map some ++ List.replicate (fn.ns - vs.length) none) H (startE fn ds) (fsOf fn vs) := by
  have hd := r.length
  have nF : ∀ (i : Nat) a, (fsOf fn vs)[i]? ≠ some (some a) := fun i a h => by
    rw [fsOf_get, hio] at h
    split at h <;> simp at h
  have st : ∀ i, (startE fn ds)[i]? = if h : i < ds.length then some (.val ds[i]) else if i < fn.ns then some .non else none := fun i => by
    rw [startE_get, hio]; simp
  refine ⟨?_, ?_, fun i d e => ?_, fun i k d e => ?_, fun i d e => ?_, fun i d e => ?_, fun a h => h.elim, fun i j a h => absurd h (nF i a), fun i a h => absurd h (nF i a), al⟩
  · rw [startE_len fn ds (by omega)]; simp [fsOf]
  · rw [startE_len fn ds (by omega)]; simp; omega
  · rw [st] at e
    split at e
    · rename_i hi
      cases e
      have hi' : i < vs.length := by omega
      obtain ⟨v, h1, h2⟩ := r.get (List.getElem?_eq_getElem hi)
      refine ⟨v, ?_, h2.mono fun a z => z.elim .inl fun z => ?_⟩
      · rw [sig_get, dif_pos hi']
        rw [List.getElem?_eq_getElem hi'] at h1
        cases h1
        rfl
      · obtain ⟨j, hj⟩ := List.mem_iff_getElem?.mp z
        exact absurd hj (nF j a)
    · split at e <;> cases e
  all_goals
    rw [st] at e
    split at e
    · cases e
    · split at e <;> cases e
theorem law_end {Pr : Program} {w : World} {K : Fr} {h : Heap} {mg : Str → Option Value} {P : CkP} {fa fa' : Addr} {fd : FuncData} {nm qual x : Str} {params : Arguments} {body : List Stmt} {scope : Scope} {N : List Str} {f : Nat} {fn : Fn} {n : Nat}
    (KX : K.In h) (hmg : mg ("law" : Str) = some (.ref fa)) (F : FunD K nm qual params body scope [] [] fa' fd) (hg : mg ("law" : Str) = some (.ref fa')) (hb : ∀ (s : Shared) (u : Value), BindsTo s fd ⟨[u], []⟩ [(x, u)]) (hck : fnCk { P with N := N } fn [x] scope body = true) (hT : P.T f = some fn)
    (hio : fn.io = []) (hnp : fn.np = 1) (hns : 1 ≤ fn.ns)
    (plain : ∀ ns : List Int, ns.length ≤ 63 → callF P.T (n + 1) f [.list (ns.map .int)] = .ok (.bool true) [])
    (tab : ∀ x f fn, P.fn x = some f → P.T f = some fn → FnTab K mg P x fn) (blt : ∀ x, P.blt x = true → mg x = none) (cst : ∀ x d, P.cst x = some d → ∃ v u, mg x = some u ∧ RelV v u ∧ (∀ (H : Hp) S, Rep K H S v d) ∧ ∀ ds, d ≠ .list ds) :
    ∃ (K : PySem.W.Frag) (fd : FuncData) (sp : Sp), K.In h ∧ (∀ (s : Shared) (u : Value), BindsTo s fd ⟨[u], []⟩ [(x, u)]) ∧
        (∀ (H : Hp) (a : Addr) (ns : List Int), ns.length ≤ 63 → Only H → SqL K H a (ns.map V.int) → sp [.ref a] H (fun v _ => v = .bl true) fun _ _ _ => False) ∧
        ∀ base : Heap, K.In base → base.Ns mainGlobals mg → FnOk Pr w K mg base CXe (n + 1) fa fd [x] sp := by
  rw [hmg] at hg
  cases hg
  refine ⟨K, fd, spF K (fun _ _ _ _ => False) (callF P.T (n + 1)) f fn, KX, hb, fun H a ns hl _ hS => ?_, fun base _ _ => FnOk.cxe (fn_ok1 F hck hT blt cst fun x f fn e1 e2 => fn_all tab blt cst n x f fn e1 e2)⟩
  have hr : Reps K H (fun _ => False) [.ref a] [.list (ns.map .int)] := .cons (.lst (by
    rcases hS with hS | hS
    · exact .inl ⟨hS, fun z => z⟩
    · exact .inr hS) (ints_rep ns)) .nil
  refine ⟨fun _ => False, [.list (ns.map .int)], by rw [hnp]; rfl, by rw [hnp]; rfl, good0 hio (by simpa using hns) hr fun _ z => z.elim, ?_⟩
  rw [plain ns hl]
  exact fun v H' _ q _ _ => rep_bl q.1
end Cw
end

section
namespace Cw
open PySem
section
variable {α β : Type}
@[simp] theorem b_ok (a : α) (r : Env) (f : α → Env → Out β) : (Out.ok a r).bind f = f a r := rfl
@[simp] theorem b_bad (f : α → Env → Out β) : (Out.bad).bind f = .bad := rfl
@[simp] theorem as_ok (a : α) (r r' : Env) : (Out.ok a r').as r = .ok a r := rfl
@[simp] theorem lift_some (a : α) (r : Env) : lift (some a) r = .ok a r := rfl
@[simp] theorem noX_okk (a : α) (r : Env) : (Out.ok a r).noX = .ok a r := rfl
end
@[simp] theorem tru_ok (d : D) (r : Env) : tru (.ok d r) = lift (truthD d) r := rfl
@[simp] theorem truth_b (b : Bool) : truthD (.bool b) = some b := rfl
@[simp] theorem truth_i (n : Int) : truthD (.int n) = some (n != 0) := rfl
@[simp] theorem truth_n : truthD .none = some false := rfl
@[simp] theorem truth_l (xs : List D) : truthD (.list xs) = some (!xs.isEmpty) := rfl
@[simp] theorem truth_t (xs : List D) : truthD (.tuple xs) = some (!xs.isEmpty) := rfl
@[simp] theorem bin_add (a b : Int) : binD .add (.int a) (.int b) = some (.int (a + b)) := rfl
@[simp] theorem bin_sub (a b : Int) : binD .sub (.int a) (.int b) = some (.int (a - b)) := rfl
theorem lt_int (a b : Int) : ltD (.int a) (.int b) = some (decide (a < b)) := by
  have e : PySem.W.dataLt (.int a) (.int b) = decide (a < b) := PySem.W.dataLt_int a b
  simp [ltD, PySem.W.alike, isNon, deepOk, PyData.depth, e]
theorem eq_int (a b : Int) : eqD (.int a) (.int b) = some (decide (a = b)) := by
  have e : (a == b) = decide (a = b) := by rw [Bool.eq_iff_iff]; simp
  simp [eqD, deepOk, PyData.plain, PyData.depth, PyData.eqv, e]
@[simp] theorem cmp_lt (a b : Int) : cmpD .lt (.int a) (.int b) = some (decide (a < b)) := lt_int a b
@[simp] theorem cmp_gt (a b : Int) : cmpD .gt (.int a) (.int b) = some (decide (b < a)) := lt_int b a
@[simp] theorem cmp_le (a b : Int) : cmpD .le (.int a) (.int b) = some (decide (a ≤ b)) := by
  show (ltD (.int b) (.int a)).map (!·) = _
  rw [lt_int]
  simp only [Option.map_some, Option.some.injEq]
  rw [Bool.eq_iff_iff]; simp
@[simp] theorem cmp_ge (a b : Int) : cmpD .ge (.int a) (.int b) = some (decide (b ≤ a)) := by
  show (ltD (.int a) (.int b)).map (!·) = _
  rw [lt_int]
  simp only [Option.map_some, Option.some.injEq]
  rw [Bool.eq_iff_iff]; simp
@[simp] theorem cmp_eq (a b : Int) : cmpD .eq (.int a) (.int b) = some (decide (a = b)) := eq_int a b
@[simp] theorem cmp_ne (a b : Int) : cmpD .ne (.int a) (.int b) = some (!decide (a = b)) := by
  show (eqD (.int a) (.int b)).map (!·) = _
  rw [eq_int]; rfl
theorem call_eq (T : Nat → Option Fn) (n f : Nat) (fn : Fn) (ds : List D) (h : T f = some fn) (hl : ds.length = fn.np) : callF T (n + 1) f ds = finE fn (evSs T (callF T n) fn.body (startE fn ds)) := by
  unfold callF
  simp only [h, hl, if_true]

theorem b_ok_of {α β : Type} {o : Out α} {a : α} {r : Env} {f : α → Env → Out β} (h : o = .ok a r) : o.bind f = f a r := by rw [h]; rfl
section
variable {T : Nat → Option Fn} {c : Nat → List D → OutC} {r r' : Env} {a b e : ME} {es : List ME} {x y z d : D} {k l : Bool} {xs ds : List D}
/-- an expression's value, the frame unchanged -/
structure EvE (T : Nat → Option Fn) (c : Nat → List D → OutC) (r : Env) (m : ME) (d : D) : Prop where
  h : evE T c m r = .ok d r
structure EvEs (T : Nat → Option Fn) (c : Nat → List D → OutC) (r : Env) (ms : List ME) (ds : List D) : Prop where
  h : evEs T c ms r = .ok ds r
structure EvAs (T : Nat → Option Fn) (c : Nat → List D → OutC) (r : Env) (n : Nat) (ms : List ME) (ds : List D) : Prop where
  h : evAs T c [] n ms r = .ok ds r
structure Cal (c : Nat → List D → OutC) (f : Nat) (ds : List D) (d : D) : Prop where
  h : c f ds = .ok d []
structure BinR (op : BOp) (x y z : D) : Prop where
  h : binD op x y = some z
structure CmpR (op : COp) (x y : D) (k : Bool) : Prop where
  h : cmpD op x y = some k
structure BiR (bi : Bi) (ds : List D) (z : D) : Prop where
  h : biD bi ds = some z
structure IdxR (x y z : D) : Prop where
  h : idxD x y = some z
structure Trth (x : D) (k : Bool) : Prop where
  h : truthD x = some k
theorem ev_var {i : Nat} (h : getV r i = some d) : EvE T c r (.var i) d := ⟨by simp only [evE, h, lift_some]⟩
theorem ev_con : EvE T c r (.con d) d := ⟨rfl⟩
theorem ev_bin {op : BOp} (ha : EvE T c r a x) (hb : EvE T c r b y) (h : BinR op x y z) : EvE T c r (.bin op a b) z := ⟨by simp only [evE, ha.h, hb.h, b_ok, h.h, lift_some]⟩
theorem ev_neg (ha : EvE T c r a x) {i : Int} (h : isInt x = some i) : EvE T c r (.neg a) (.int (-i)) := ⟨by simp only [evE, ha.h, b_ok, h, Option.map_some, lift_some]⟩
theorem ev_cmp {op : COp} (ha : EvE T c r a x) (hb : EvE T c r b y) (h : CmpR op x y k) : EvE T c r (.cmp op a b) (.bool k) := ⟨by simp only [evE, ha.h, hb.h, b_ok, h.h, Option.map_some, lift_some]⟩
theorem ev_chain {p q : COp} {m : ME} (ha : EvE T c r a x) (hb : EvE T c r b y) (h1 : CmpR p x y k) (hc : EvE T c r m z) (h2 : CmpR q y z l) : EvE T c r (.chain p q a b m) (.bool (k && l)) := ⟨by
  simp only [evE, ha.h, hb.h, b_ok, h1.h, lift_some]
  cases k with
  | true => simp only [if_true, hc.h, b_ok, h2.h, Option.map_some, lift_some, Bool.true_and]
  | false => simp only [Bool.false_eq_true, if_false, Bool.false_and]⟩
theorem ev_and (ha : EvE T c r a (.bool k)) (hb : k = true → EvE T c r b (.bool l)) : EvE T c r (.and a b) (.bool (k && l)) := ⟨by
  simp only [evE, ha.h, b_ok, truth_b, lift_some]
  cases k with
  | true => simp only [if_true, (hb rfl).h, Bool.true_and]
  | false => simp only [Bool.false_eq_true, if_false, Bool.false_and]⟩
theorem ev_or (ha : EvE T c r a (.bool k)) (hb : k = false → EvE T c r b (.bool l)) : EvE T c r (.or a b) (.bool (k || l)) := ⟨by
  simp only [evE, ha.h, b_ok, truth_b, lift_some]
  cases k with
  | false => simp only [Bool.false_eq_true, if_false, (hb rfl).h, Bool.false_or]
  | true => simp only [if_true, Bool.true_or]⟩
theorem ev_not (ha : EvE T c r a x) (h : Trth x k) : EvE T c r (.not a) (.bool (!k)) := ⟨by simp only [evE, ha.h, b_ok, h.h, Option.map_some, lift_some]⟩
theorem ev_ite {m : ME} (hc : EvE T c r m x) (ht : Trth x k) (ha : k = true → EvE T c r a y) (hb : k = false → EvE T c r b z) : EvE T c r (.ite m a b) (if k then y else z) := ⟨by
  simp only [evE, hc.h, tru_ok, ht.h, lift_some, b_ok]
  cases k with
  | true => simp only [if_true, (ha rfl).h]
  | false => simp only [Bool.false_eq_true, if_false, (hb rfl).h]⟩
theorem ev_idx (ha : EvE T c r a x) (hb : EvE T c r b y) (h : IdxR x y z) : EvE T c r (.idx a b) z := ⟨by simp only [evE, ha.h, hb.h, b_ok, h.h, lift_some]⟩
theorem ev_sidx {i : Nat} (hi : getA r i = some x) (hb : EvE T c r b y) (h : IdxR x y z) : EvE T c r (.sidx i b) z := ⟨by simp only [evE, hi, hb.h, b_ok, h.h, lift_some]⟩
theorem evs_nil : EvEs T c r [] [] := ⟨rfl⟩
theorem evs_cons (h : EvE T c r e d) (hs : EvEs T c r es ds) : EvEs T c r (e :: es) (d :: ds) := ⟨by simp only [evEs, h.h, hs.h, b_ok]⟩
theorem ev_tup (hs : EvEs T c r es ds) (hl : ds.length ≤ LIM) : EvE T c r (.tup es) (.tuple ds) := ⟨by simp only [evE, hs.h, b_ok, hl, if_true]⟩
theorem ev_lst (hs : EvEs T c r es ds) (hl : ds.length ≤ LIM) : EvE T c r (.lst es) (.list ds) := ⟨by simp only [evE, hs.h, b_ok, hl, if_true]⟩
theorem ev_bi {bi : Bi} (hs : EvEs T c r es ds) (h : BiR bi ds d) : EvE T c r (.bi bi es) d := ⟨by simp only [evE, hs.h, b_ok, h.h, lift_some]⟩
theorem ev_isa {ts : List Ty} (ha : EvE T c r a x) (hp : x.plain = true) (h : (ts.any fun t => isaTy t x) = k) : EvE T c r (.isa a ts) (.bool k) := ⟨by simp only [evE, ha.h, b_ok, hp, if_true, h]⟩
theorem as_nil {n : Nat} : EvAs T c r n [] [] := ⟨rfl⟩
theorem as_cons {n : Nat} (h : EvE T c r e d) (hs : EvAs T c r (n + 1) es ds) : EvAs T c r n (e :: es) (d :: ds) := ⟨by
  simp only [evAs, List.contains_nil, Bool.false_eq_true, if_false, h.h, b_ok, hs.h]⟩
theorem ev_call {f : Nat} {fn : Fn} (hT : T f = some fn) (hio : fn.io = []) (hs : EvAs T c r 0 es ds) (hc : Cal c f ds d) : EvE T c r (.call f es) d := ⟨by
  simp only [evE, hT, hio, ioSlots]
  rw [if_neg (by simp)]
  simp only [hs.h, b_ok, hc.h, List.length_nil, if_true, putMs]⟩
theorem ev_as (h : EvE T c r e x) (h2 : x = y) : EvE T c r e y := h2 ▸ h
theorem ev_rng (ha : EvE T c r a x) (hb : EvE T c r b y) (h : rngD x y = some z) : EvE T c r (.rng a b) z := ⟨by simp only [evE, ha.h, hb.h, b_ok, h, lift_some]⟩
theorem b_add (a b : Int) : BinR .add (.int a) (.int b) (.int (a + b)) := ⟨rfl⟩
theorem b_sub (a b : Int) : BinR .sub (.int a) (.int b) (.int (a - b)) := ⟨rfl⟩
theorem b_mod (a b : Int) (h : 0 < b) : BinR .mod (.int a) (.int b) (.int (a % b)) := ⟨by simp only [binD, h, if_true]⟩
theorem r_lt (a b : Int) : CmpR .lt (.int a) (.int b) (decide (a < b)) := ⟨cmp_lt a b⟩
theorem r_gt (a b : Int) : CmpR .gt (.int a) (.int b) (decide (b < a)) := ⟨cmp_gt a b⟩
theorem r_le (a b : Int) : CmpR .le (.int a) (.int b) (decide (a ≤ b)) := ⟨cmp_le a b⟩
theorem r_ge (a b : Int) : CmpR .ge (.int a) (.int b) (decide (b ≤ a)) := ⟨cmp_ge a b⟩
theorem r_eq (a b : Int) : CmpR .eq (.int a) (.int b) (decide (a = b)) := ⟨cmp_eq a b⟩
theorem r_ne (a b : Int) : CmpR .ne (.int a) (.int b) (!decide (a = b)) := ⟨cmp_ne a b⟩
theorem t_b (b : Bool) : Trth (.bool b) b := ⟨rfl⟩
theorem t_i (i : Int) : Trth (.int i) (i != 0) := ⟨rfl⟩
theorem t_l (xs : List D) : Trth (.list xs) (!xs.isEmpty) := ⟨rfl⟩
theorem m_keep {m : ME} {kk : Nat} (h : EvE T c (prtA r) m d) : evM T c kk (.keep []) m r = .ok d r := by
  show (evE T c m (prtA r)).as r = _
  rw [h.h]; rfl
theorem m_look {m : ME} {kk : Nat} (h : EvE T c (frzA r) m d) (hi : (imm d || (kk == 1 && shal d)) = true) : evM T c kk .look m r = .ok d r := by
  show ((evE T c m (frzA r)).as r).bind _ = _
  rw [h.h]
  show (if (imm d || (kk == 1 && shal d)) = true then Out.ok d r else .bad) = _
  rw [if_pos hi]
theorem t_keep {m : ME} (h : EvE T c (prtA r) m x) (ht : Trth x k) : evT T c (.keep []) m r = .ok k r := by
  show (tru (evE T c m (prtA r))).as r = _
  rw [h.h, tru_ok, ht.h]; rfl
theorem t_look {m : ME} (h : EvE T c (frzA r) m x) (ht : Trth x k) : evT T c .look m r = .ok k r := by
  show (tru (evE T c m (frzA r))).as r = _
  rw [h.h, tru_ok, ht.h]; rfl
theorem i_keep {m : ME} (h : EvE T c (prtA r) m x) (hx : itemsD x = some xs) : evI T c (.keep []) m r = .ok xs r := by
  show ((evE T c m (prtA r)).bind fun x r1 => lift (itemsD x) r1).as r = _
  rw [h.h, b_ok, hx]; rfl
abbrev StS (T : Nat → Option Fn) (c : Nat → List D → OutC) (r : Env) (ss : List MS) (fl : Flow) (r' : Env) : Prop := evSs T c ss r = .ok fl r'
variable {ss : List MS} {s : MS} {fl : Flow} {md : Md} {kk i : Nat} {m : ME}
theorem ss_nil : StS T c r [] .nx r := rfl
theorem ss_nx (h : evS T c s r = .ok .nx r') {r2 : Env} (hs : StS T c r' ss fl r2) : StS T c r (s :: ss) fl r2 := by simp only [StS, evSs, h, b_ok]; exact hs
theorem ss_ret {dd : D} (h : evS T c s r = .ok (.ret kk dd) r') : StS T c r (s :: ss) (.ret kk dd) r' := by simp only [StS, evSs, h, b_ok]
theorem ss_brk (h : evS T c s r = .ok .brk r') : StS T c r (s :: ss) .brk r' := by simp only [StS, evSs, h, b_ok]
theorem s_asg (h : evM T c kk md m r = .ok d r') : evS T c (.asg i kk md m) r = .ok .nx (r'.set i (if kk == 1 && isMut d then .own 1 d else .val d)) := by simp only [evS, h, b_ok]
theorem s_exp (h : evM T c 0 md m r = .ok d r') : evS T c (.exp md m) r = .ok .nx r' := by simp only [evS, h, b_ok]
theorem s_ret (h : evM T c kk md m r = .ok d r') : evS T c (.ret kk md m) r = .ok (.ret kk d) r' := by simp only [evS, h, b_ok]
theorem s_retv {j : Nat} (h : r[j]? = some (.val d)) : evS T c (.retv j) r = .ok (.ret 0 d) r := by simp only [evS, h]
theorem s_retO {j : Nat} (h : r[j]? = some (.own 1 d)) : evS T c (.retv j) r = .ok (.ret 1 d) r := by simp only [evS, h]
theorem s_app {j : Nat} {d' v : D} (h0 : getM r j = some d') (h : evM T c 0 md m r = .ok v r') (h1 : getM r' j = some x) (h2 : appD x v = some y) : evS T c (.app j md m) r = .ok .nx (putM r' j y) := by simp only [evS, h0, lift_some, b_ok, h, h1, h2]
theorem s_if {p q : List MS} (h : evT T c md m r = .ok k r') {r2 : Env} (ha : k = true → StS T c r' p fl r2) (hb : k = false → StS T c r' q fl r2) : evS T c (.ife md m p q) r = .ok fl r2 := by
  simp only [evS, h, b_ok]
  cases k with
  | true => simp only [if_true]; exact ha rfl
  | false => simp only [Bool.false_eq_true, if_false]; exact hb rfl
theorem s_for {t : Tg} {body : List MS} (h : evI T c md m r = .ok xs r') {o : Out Flow} (hl : loopF (fun y rr => match asgG t y rr with
        | none => .bad
        | some r2 => evSs T c body r2) xs r' = o) : evS T c (.for t md m body) r = o := by simp only [evS, h, b_ok]; exact hl
/-- a loop that always goes on, an invariant I -/
theorem loop_inv {f : D → Env → Out Flow} (I : Nat → Env → Prop) : ∀ (xs : List D) (j : Nat) (r : Env), I j r → (∀ (i : Nat) (x : D) (r : Env), xs[i]? = some x → I (j + i) r → ∃ r', (f x r = .ok .nx r' ∨ f x r = .ok .cnt r') ∧ I (j + i + 1) r') → ∃ r', loopF f xs r = .ok .nx r' ∧ I (j + xs.length) r'
  | [], j, r, h, _ => ⟨r, rfl, by simpa using h⟩
  | x :: xs, j, r, h, hs => by
    obtain ⟨r1, e, h1⟩ := hs 0 x r rfl (by simpa using h)
    obtain ⟨r2, e2, h2⟩ := loop_inv I xs (j + 1) r1 (by simpa using h1) fun i y q hi hI => by
      have := hs (i + 1) y q (by simpa using hi) (by rw [show j + (i + 1) = j + 1 + i by omega]; exact hI)
      rw [show j + (i + 1) + 1 = j + 1 + i + 1 by omega] at this
      exact this
    refine ⟨r2, ?_, by rw [List.length_cons, show j + (xs.length + 1) = j + 1 + xs.length by omega]; exact h2⟩
    rcases e with e | e <;> (unfold loopF; rw [e]; exact e2)
/-- a call that returns -/
theorem call_ret {f n : Nat} {fn : Fn} (hT : T f = some fn) (hl : ds.length = fn.np) (hio : fn.io = []) (h : StS T (callF T n) (startE fn ds) fn.body (.ret kk d) r') (hf : (fn.fresh == 0 || kk == 1 || imm d) = true) : Cal (callF T (n + 1)) f ds d := by
  constructor
  rw [call_eq T n f fn ds hT hl, h]
  simp only [finE, hf, if_true, hio, outsE]

theorem set_set {i : Nat} {x y : Slot} : (r.set i x).set i y = r.set i y := by simp
theorem set_back {i : Nat} {x : Slot} : (r.set i x).set i (r.getD i .non) = r := by
  apply List.ext_getElem?
  intro j
  by_cases e : i = j
  · subst e
    by_cases hl : i < r.length
    · rw [List.getElem?_set_self (by simpa using hl), List.getElem?_eq_getElem hl]
      simp [List.getD_eq_getElem?_getD, List.getElem?_eq_getElem hl]
    · rw [List.getElem?_eq_none (by simpa using hl), List.getElem?_eq_none (by simpa using hl)]
  · rw [List.getElem?_set_ne e, List.getElem?_set_ne e]
theorem loopC_map {α : Type} {f : D → Env → Out (Option D)} {w : Env} {h : α → D} {p : α → Bool} {g : α → D} : ∀ (ns : List α) (acc : List D), acc.length + ns.length ≤ LIM → (∀ n ∈ ns, f (h n) w = .ok (if p n then some (g n) else none) w) →
    loopC f (ns.map h) acc w = .ok (acc ++ (ns.filter p).map g) w
  | [], acc, _, _ => by simp [loopC]
  | n :: ns, acc, hl, hf => by
    have e := hf n List.mem_cons_self
    simp only [List.map_cons, loopC, e, b_ok]
    simp only [List.length_cons] at hl
    cases hp : p n with
    | true =>
      simp only [if_true]
      rw [if_pos (by omega), loopC_map ns (acc ++ [g n]) (by simp; omega) fun m hm => hf m (List.mem_cons_of_mem _ hm)]
      simp [List.filter_cons, hp]
    | false =>
      simp only [Bool.false_eq_true, if_false]
      rw [loopC_map ns acc (by omega) fun m hm => hf m (List.mem_cons_of_mem _ hm)]
      simp [List.filter_cons, hp]
theorem ev_comp {α : Type} {h : α → D} {ns : List α} {p : α → Bool} {g : α → D} {elt it : ME} {cd : Option ME} {j : Nat} (hi : EvE T c r it x) (hx : itemsD x = some (ns.map h)) (hw : okW r [j] = true) (hl : ns.length ≤ LIM)
    (hc : ∀ n ∈ ns, evC T c cd (r.set j (.val (h n))) = .ok (p n) (r.set j (.val (h n)))) (he : ∀ n ∈ ns, p n = true → EvE T c (r.set j (.val (h n))) elt (g n)) : EvE T c r (.comp elt (.nm j) it cd) (.list ((ns.filter p).map g)) := by
  refine ⟨?_⟩
  simp only [evE, hi.h, b_ok, hx, lift_some, tgS, hw, if_true]
  rw [loopC_map (h := h) (p := p) (g := g) ns [] (by simpa using hl) fun n hn => ?_]
  · simp only [noX_okk, b_ok, List.nil_append, unwipeE, wipeE]
    rw [set_back]
  · simp only [asgG, wipeE, set_set, hc n hn, b_ok]
    cases hp : p n with
    | true =>
      simp only [if_true]
      rw [(he n hn hp).h]
      simp only [b_ok, Out.wiped, wipeE, set_set]
    | false =>
      simp only [Bool.false_eq_true, if_false, Out.wiped, b_ok, wipeE, set_set]
theorem filt_true {α : Type} (ns : List α) : (ns.filter fun _ => true) = ns := List.filter_eq_self.mpr fun _ _ => rfl
theorem ev_comp0 {α : Type} {h : α → D} {ns : List α} {g : α → D} {elt it : ME} {j : Nat} (hi : EvE T c r it x) (hx : itemsD x = some (ns.map h)) (hw : okW r [j] = true) (hl : ns.length ≤ LIM)
    (he : ∀ n ∈ ns, EvE T c (r.set j (.val (h n))) elt (g n)) : EvE T c r (.comp elt (.nm j) it none) (.list (ns.map g)) := by
  have q := ev_comp (p := fun _ => true) (cd := none) hi hx hw hl (fun _ _ => rfl) fun n hn _ => he n hn
  rw [filt_true] at q
  exact q
theorem c_none : evC T c none r = .ok true r := rfl
theorem c_some {m : ME} (h : EvE T c r m x) (ht : Trth x k) : evC T c (some m) r = .ok k r := by
  show tru (evE T c m r) = _
  rw [h.h, tru_ok, ht.h]; rfl
/-- a while loop, its state encoded in the frame -/
def whileN {σ : Type} (cond : σ → Bool) (step : σ → σ) : Nat → σ → Option σ
  | 0, _ => none
  | n + 1, s => if cond s then whileN cond step n (step s) else some s
theorem whileN_more {σ : Type} {cond : σ → Bool} {step : σ → σ} : ∀ {m n : Nat} {s s' : σ}, whileN cond step m s = some s' → m ≤ n → whileN cond step n s = some s'
  | 0, _, _, _, h, _ => by cases h
  | m + 1, 0, _, _, _, h => by omega
  | m + 1, n + 1, s, s', h, hl => by
    unfold whileN at h ⊢
    split at h
    · rename_i hc
      rw [if_pos hc]
      exact whileN_more h (by omega)
    · rename_i hc
      rw [if_neg hc]
      exact h
theorem while_run {σ : Type} {t : Env → Out Bool} {f : Env → Out Flow} (enc : σ → Env) (cond : σ → Bool) (step : σ → σ) (ht : ∀ s, t (enc s) = .ok (cond s) (enc s)) (hf : ∀ s, cond s = true → f (enc s) = .ok .nx (enc (step s))) :
    ∀ (n : Nat) (s s' : σ), whileN cond step n s = some s' → loopW t f n (enc s) = .ok .nx (enc s')
  | 0, _, _, h => by cases h
  | n + 1, s, s', h => by
    unfold whileN at h
    unfold loopW
    rw [ht s]
    simp only [b_ok]
    cases hc : cond s with
    | true =>
      rw [hc, if_pos rfl] at h
      rw [if_pos rfl, hf s hc]
      exact while_run enc cond step ht hf n _ _ h
    | false =>
      rw [hc, if_neg Bool.false_ne_true] at h
      cases h
      rw [if_neg Bool.false_ne_true]
theorem s_whl {body : List MS} (h : loopW (fun rr => evT T c md m rr) (fun rr => evSs T c body rr) 100000 r = .ok fl r') : evS T c (.whl md m body) r = .ok fl r' := by simp only [evS]; exact h
/-- a for loop, its state encoded in the frame -/
theorem for_run {σ α : Type} {f : D → Env → Out Flow} (h : α → D) (enc : σ → Env) (step : α → σ → σ) : ∀ (ns : List α) (s : σ), (∀ n ∈ ns, ∀ s, f (h n) (enc s) = .ok .nx (enc (step n s)) ∨ f (h n) (enc s) = .ok .cnt (enc (step n s))) → loopF f (ns.map h) (enc s) = .ok .nx (enc (ns.foldl (fun s n => step n s) s))
  | [], s, _ => rfl
  | n :: ns, s, hf => by
    have e := hf n List.mem_cons_self s
    have ih := for_run h enc step ns (step n s) fun m hm => hf m (List.mem_cons_of_mem _ hm)
    rcases e with e | e <;> (simp only [List.map_cons, loopF, e, b_ok]; exact ih)
/-- the same under an invariant -/
theorem for_runP {σ α : Type} {f : D → Env → Out Flow} (h : α → D) (enc : σ → Env) (step : α → σ → σ) (P : Nat → σ → Prop) : ∀ (ns : List α) (j : Nat) (s : σ), P j s → (∀ (i : Nat) (n : α) (s : σ), ns[i]? = some n → P (j + i) s → (f (h n) (enc s) = .ok .nx (enc (step n s)) ∨ f (h n) (enc s) = .ok .cnt (enc (step n s))) ∧ P (j + i + 1) (step n s)) →
    loopF f (ns.map h) (enc s) = .ok .nx (enc (ns.foldl (fun s n => step n s) s)) ∧ P (j + ns.length) (ns.foldl (fun s n => step n s) s)
  | [], j, s, hp, _ => ⟨rfl, hp⟩
  | n :: ns, j, s, hp, hf => by
    obtain ⟨e, h1⟩ := hf 0 n s rfl hp
    have ih := for_runP h enc step P ns (j + 1) (step n s) h1 fun i m q hi hq => by
      have := hf (i + 1) m q (by simpa using hi) (by rw [show j + (i + 1) = j + 1 + i by omega]; exact hq)
      rw [show j + (i + 1) + 1 = j + 1 + i + 1 by omega] at this
      exact this
    rw [show j + (n :: ns).length = j + 1 + ns.length by simp; omega]
    refine ⟨?_, ih.2⟩
    rcases e with e | e <;> (simp only [List.map_cons, loopF, e, b_ok]; exact ih.1)
theorem intsD_map : ∀ ns : List Int, intsD (ns.map .int) = some ns
  | [] => rfl
  | n :: ns => by simp only [List.map_cons, intsD, intsD_map ns, Option.map_some]
theorem bi_sum (ns : List Int) : BiR .sum [.list (ns.map .int)] (.int ns.sum) := ⟨by simp only [biD, intsD_map, Option.map_some]⟩
theorem bi_sumT (ns : List Int) : BiR .sum [.tuple (ns.map .int)] (.int ns.sum) := ⟨by simp only [biD, intsD_map, Option.map_some]⟩
theorem bls_map : ∀ bs : List Bool, bls (bs.map .bool) = some bs
  | [] => rfl
  | b :: bs => by simp only [List.map_cons, bls, bls_map bs, Option.map_some]
theorem bi_all (bs : List Bool) : BiR .all [.list (bs.map .bool)] (.bool (bs.all id))   := by
  constructor
  simp only [biD, bls_map, Option.map_some]
theorem bi_any (bs : List Bool) : BiR .any [.list (bs.map .bool)] (.bool (bs.any id))   := by
  constructor
  simp only [biD, bls_map, Option.map_some]
theorem depth_ints : ∀ ns : List Int, PyData.depthAll (ns.map .int) ≤ 1
  | [] => by simp [PyData.depthAll]
  | n :: ns => by
    have ih := depth_ints ns
    simp only [List.map_cons, PyData.depthAll, PyData.depth]
    omega
theorem alike_ints (ns : List Int) : alikeAllB (ns.map .int) = true := by
  have h1 : ((ns.map PyData.int).all fun x => (ns.map PyData.int).all fun y => PySem.W.alike x y) = true := by
    rw [List.all_eq_true]
    intro x hx
    rw [List.all_eq_true]
    intro y hy
    obtain ⟨i, _, rfl⟩ := List.mem_map.mp hx
    obtain ⟨j, _, rfl⟩ := List.mem_map.mp hy
    rfl
  have h2 : ((ns.map PyData.int).all fun x => !isNon x) = true := by
    rw [List.all_eq_true]
    intro x hx
    obtain ⟨i, _, rfl⟩ := List.mem_map.mp hx
    rfl
  have h3 := depth_ints ns
  unfold alikeAllB
  rw [h1, h2]
  exact decide_eq_true (by omega)
theorem bi_max1 (n : Int) (ns : List Int) : BiR .max1 [.list ((n :: ns).map .int)] (.int (ns.foldl max n)) := by
  constructor
  have e := alike_ints (n :: ns)
  simp only [List.map_cons] at e
  simp only [List.map_cons, biD, e, if_true]
  rw [PySem.W.maxD_ints]
theorem bi_max1T (n : Int) (ns : List Int) : BiR .max1 [.tuple ((n :: ns).map .int)] (.int (ns.foldl max n)) := by
  constructor
  have e := alike_ints (n :: ns)
  simp only [List.map_cons] at e
  simp only [List.map_cons, biD, e, if_true]
  rw [PySem.W.maxD_ints]
theorem bi_min1 (n : Int) (ns : List Int) : BiR .min1 [.list ((n :: ns).map .int)] (.int (ns.foldl min n)) := by
  constructor
  have e := alike_ints (n :: ns)
  simp only [List.map_cons] at e
  simp only [List.map_cons, biD, e, if_true]
  rw [PySem.W.minD_ints]
theorem bi_min1T (n : Int) (ns : List Int) : BiR .min1 [.tuple ((n :: ns).map .int)] (.int (ns.foldl min n)) := by
  constructor
  have e := alike_ints (n :: ns)
  simp only [List.map_cons] at e
  simp only [List.map_cons, biD, e, if_true]
  rw [PySem.W.minD_ints]
theorem bi_min2 (a b : Int) : BiR .min2 [.int a, .int b] (.int (min a b)) := by
  constructor
  have e : (if b < a then b else a) = min a b := by split <;> omega
  simp only [biD, e]
theorem bi_max2 (a b : Int) : BiR .max2 [.int a, .int b] (.int (max a b)) := by
  constructor
  have e : (if b > a then b else a) = max a b := by split <;> omega
  simp only [biD, e]
theorem bi_len (xs : List D) : BiR .len [.list xs] (.int xs.length) := ⟨rfl⟩
theorem bi_lenT (xs : List D) : BiR .len [.tuple xs] (.int xs.length) := ⟨rfl⟩
theorem bi_tup (xs : List D) : BiR .tuple [.list xs] (.tuple xs) := ⟨rfl⟩
theorem bi_int (i : Int) : BiR .int [.int i] (.int i) := ⟨rfl⟩
theorem rng_eq' {i j : Int} (h1 : -(2 ^ 62) ≤ i) (h2 : i < 2 ^ 62) (h3 : -(2 ^ 62) ≤ j) (h4 : j < 2 ^ 62) : rngD (.int i) (.int j) = some (.list ((List.range (j - i).toNat).map fun k => .int (i + (k : Nat)))) := by
  simp only [rngD, h1, h2, h3, h4, and_self, if_true, rangeD]
theorem plain_int (i : Int) : (PyData.int i).plain = true := rfl
theorem plainAll_ints : ∀ ns : List Int, PyData.plainAll (ns.map .int) = true
  | [] => rfl
  | n :: ns => by simp [PyData.plainAll, PyData.plain, plainAll_ints ns]
theorem plain_ints (ns : List Int) : (PyData.list (ns.map .int)).plain = true := plainAll_ints ns
theorem plain_intsT (ns : List Int) : (PyData.tuple (ns.map .int)).plain = true := plainAll_ints ns
theorem atI_nat {α : Type} {xs : List α} {k : Nat} {x : α} (h : xs[k]? = some x) : L2.atI xs (k : Nat) = some x := by
  have hl : k < xs.length := (List.getElem?_eq_some_iff.mp h).1
  unfold L2.atI L2.ixN
  rw [if_pos (by omega), if_pos (by omega)]
  exact h

theorem b_mul (a b : Int) (h : mulOk a b = true) : BinR .mul (.int a) (.int b) (.int (a * b)) := ⟨by simp only [binD, h, if_true]⟩
theorem mul_ok_r {a b : Int} (h1 : -(2 ^ 64) < b) (h2 : b < 2 ^ 64) : mulOk a b = true := decide_eq_true (.inr (.inl ⟨h1, h2⟩))
theorem b_fdiv (a b : Int) (h : divOk b = true) : BinR .fdiv (.int a) (.int b) (.int (a / b)) := ⟨by simp only [binD, h, if_true]⟩
theorem s_set {j : Nat} {kx : ME} {v d0 kd d' : D} (h : evM T c 0 md m r = .ok v r') (h1 : getM r' j = some d0) (hk : EvE T c (prtA r') kx kd) (h2 : setD d0 kd v = some d') : evS T c (.set j kx md m) r = .ok .nx (putM r' j d') := by
  have hk' : evM T c 0 (.keep []) kx r' = .ok kd r' := m_keep hk
  simp only [evS, h, b_ok, h1, lift_some, hk', h2]
/-- a call that changes lists -/
theorem call_retIo {f n : Nat} {fn : Fn} {os : List D} (hT : T f = some fn) (hl : ds.length = fn.np) (h : StS T (callF T n) (startE fn ds) fn.body (.ret kk d) r') (ho : outsE r' fn.io = some os) (hf : (fn.fresh == 0 || kk == 1 || imm d) = true) : callF T (n + 1) f ds = .ok d os := by
  rw [call_eq T n f fn ds hT hl, h]
  simp only [finE, hf, if_true, ho]
/-- a loop that may be left -/
theorem loop_brk {f : D → Env → Out Flow} (I : Nat → Env → Prop) (B : Env → Prop) : ∀ (xs : List D) (j : Nat) (r : Env), I j r → (∀ (i : Nat) (x : D) (r : Env), xs[i]? = some x → I (j + i) r → ∃ r', (f x r = .ok .nx r' ∧ I (j + i + 1) r') ∨ (f x r = .ok .brk r' ∧ B r')) → ∃ r', loopF f xs r = .ok .nx r' ∧ (I (j + xs.length) r' ∨ B r')
  | [], j, r, h, _ => ⟨r, rfl, .inl (by simpa using h)⟩
  | x :: xs, j, r, h, hs => by
    obtain ⟨r1, ⟨e, h1⟩ | ⟨e, h1⟩⟩ := hs 0 x r rfl (by simpa using h)
    · obtain ⟨r2, e2, h2⟩ := loop_brk I B xs (j + 1) r1 (by simpa using h1) fun i y q hi hI => by
        have := hs (i + 1) y q (by simpa using hi) (by rw [show j + (i + 1) = j + 1 + i by omega]; exact hI)
        rw [show j + (i + 1) + 1 = j + 1 + i + 1 by omega] at this
        exact this
      refine ⟨r2, by unfold loopF; rw [e]; exact e2, ?_⟩
      rw [List.length_cons, show j + (xs.length + 1) = j + 1 + xs.length by omega]
      exact h2
    · exact ⟨r1, by unfold loopF; rw [e]; rfl, .inr h1⟩
end
end Cw
end

section
namespace Cw
open PySem PySem.Spec PyProof.Rows L2

/-- plain: 0 value, 1 part -/
def b_plain : List MS := [
  .ife (.keep []) (.isa (.var 0) [.list, .tuple]) [
    .ret 0 (.keep []) (.bi .tuple [(.comp (.call 0 [(.var 1)]) (.nm 1) (.var 0) none)])] [],
  .ret 0 (.keep []) (.var 0)]
/-- require: 0 holds, 1 at -/
def b_require : List MS := [
  .ife (.keep []) (.not (.var 0)) [
    .bot] []]
/-- is_integer: 0 value -/
def b_is_integer : List MS := [
  .ret 0 (.keep []) (.and (.isa (.var 0) [.int]) (.not (.isa (.var 0) [.bool])))]
/-- is_natural: 0 value -/
def b_is_natural : List MS := [
  .ret 0 (.keep []) (.and (.call 2 [(.var 0)]) (.cmp .ge (.var 0) (.con (.int 0))))]
/-- is_between: 0 value, 1 low, 2 high -/
def b_is_between : List MS := [
  .ret 0 (.keep []) (.and (.call 2 [(.var 0)]) (.chain .le .le (.var 1) (.var 0) (.var 2)))]
/-- is_sequence: 0 value, 1 least, 2 most -/
def b_is_sequence : List MS := [
  .ret 0 (.keep []) (.and (.isa (.var 0) [.list, .tuple]) (.chain .le .le (.var 1) (.bi .len [(.var 0)]) (.var 2)))]
/-- are_between: 0 values, 1 low, 2 high, 3 value -/
def b_are_between : List MS := [
  .ret 0 (.keep []) (.bi .all [(.comp (.call 4 [(.var 3), (.var 1), (.var 2)]) (.nm 3) (.var 0) none)])]
/-- are_numbers: 0 value, 1 many, 2 number -/
def b_are_numbers : List MS := [
  .ret 0 (.keep []) (.and (.call 5 [(.var 0), (.con (.int 0)), (.var 1)]) (.bi .all [(.comp (.call 3 [(.var 2)]) (.nm 2) (.var 0) none)]))]
/-- are_needs: 0 value -/
def b_are_needs : List MS := [
  .ret 0 (.keep []) (.and (.call 5 [(.var 0), (.con (.int 1)), (.con (.int 6))]) (.call 6 [(.var 0), (.con (.int 0)), (.con (.int 1000))]))]
/-- given_up_to: 0 needs, 1 level, 2 need -/
def b_given_up_to : List MS := [
  .ret 0 (.keep []) (.bi .sum [(.comp (.bi .min2 [(.var 2), (.var 1)]) (.nm 2) (.var 0) none)])]
/-- full_level: 0 needs, 1 many, 2 level -/
def b_full_level : List MS := [
  .asg 2 0 (.keep []) (.con (.int 0)),
  .whl (.keep []) (.and (.cmp .lt (.var 2) (.bi .max1 [(.var 0)])) (.cmp .le (.call 9 [(.var 0), (.bin .add (.var 2) (.con (.int 1)))]) (.var 1))) [
    .asg 2 0 (.keep []) (.bin .add (.var 2) (.con (.int 1)))],
  .retv 2]
/-- shared_out: 0 needs, 1 sacks, 2 many, 3 level, 4 left, 5 given, 6 need -/
def b_shared_out : List MS := [
  .asg 2 0 (.keep []) (.bi .min2 [(.var 1), (.bi .sum [(.var 0)])]),
  .asg 3 0 (.keep []) (.call 10 [(.var 0), (.var 2)]),
  .asg 4 0 (.keep []) (.bin .sub (.var 2) (.call 9 [(.var 0), (.var 3)])),
  .asg 5 1 (.keep []) (.lst []),
  .for (.nm 6) (.keep []) (.var 0) [
    .ife (.keep []) (.and (.cmp .gt (.var 6) (.var 3)) (.cmp .gt (.var 4) (.con (.int 0)))) [
      .app 5 (.keep []) (.bin .add (.var 3) (.con (.int 1))),
      .asg 4 0 (.keep []) (.bin .sub (.var 4) (.con (.int 1)))] [
      .app 5 (.keep []) (.bi .min2 [(.var 6), (.var 3)])]],
  .ret 0 .look (.bi .tuple [(.var 5)])]
/-- rations: 0 needs, 1 sacks -/
def b_rations : List MS := [
  .exp (.keep []) (.call 1 [(.call 8 [(.var 0)]), (.con (.int 0))]),
  .exp (.keep []) (.call 1 [(.call 4 [(.var 1), (.con (.int 0)), (.con (.int 6000))]), (.con (.int 1))]),
  .ret 0 (.keep []) (.call 11 [(.var 0), (.var 1)])]
/-- level_of: 0 needs, 1 sacks, 2 given, 3 short, 4 at -/
def b_level_of : List MS := [
  .exp (.keep []) (.call 1 [(.call 8 [(.var 0)]), (.con (.int 0))]),
  .exp (.keep []) (.call 1 [(.call 4 [(.var 1), (.con (.int 0)), (.con (.int 6000))]), (.con (.int 1))]),
  .asg 2 0 (.keep []) (.call 11 [(.var 0), (.var 1)]),
  .asg 3 0 (.keep []) (.comp (.idx (.var 2) (.var 4)) (.nm 4) (.rng (.con (.int 0)) (.bi .len [(.var 0)])) (some (.cmp .lt (.idx (.var 2) (.var 4)) (.idx (.var 0) (.var 4))))),
  .ife (.keep []) (.not (.var 3)) [
    .ret 0 (.keep []) (.con .none)] [],
  .ret 0 (.keep []) (.bi .min1 [(.var 3)])]
/-- envies: 0 needs, 1 given, 2 pairs, 3 i, 4 j -/
def b_envies : List MS := [
  .exp (.keep []) (.call 1 [(.call 8 [(.var 0)]), (.con (.int 0))]),
  .exp (.keep []) (.call 1 [(.call 7 [(.var 1), (.con (.int 5000))]), (.con (.int 1))]),
  .exp (.keep []) (.call 1 [(.cmp .eq (.bi .len [(.var 1)]) (.bi .len [(.var 0)])), (.con (.int 1))]),
  .asg 2 1 (.keep []) (.lst []),
  .for (.nm 3) (.keep []) (.rng (.con (.int 0)) (.bi .len [(.var 0)])) [
    .for (.nm 4) (.keep []) (.rng (.con (.int 0)) (.bi .len [(.var 0)])) [
      .ife (.keep []) (.and (.cmp .lt (.idx (.var 1) (.var 3)) (.idx (.var 0) (.var 3))) (.cmp .le (.bin .add (.idx (.var 1) (.var 3)) (.con (.int 2))) (.idx (.var 1) (.var 4)))) [
        .app 2 (.keep []) (.tup [(.var 3), (.var 4)])] []]],
  .ret 0 .look (.bi .tuple [(.var 2)])]
/-- _law_numbers: 0 script, 1 row, 2 single, 3 left, 4 k, 5 stirred -/
def b__law_numbers : List MS := [
  .asg 1 1 (.keep []) (.lst []),
  .for (.nm 2) (.keep []) (.slc (.var 0) none (some (.con (.int 63)))) [
    .ife (.keep []) (.cmp .ge (.var 2) (.bin .pow (.con (.int 10)) (.con (.int 18)))) [
      .asg 3 0 (.keep []) (.var 2),
      .for (.nm 4) (.keep []) (.rng (.con (.int 0)) (.con (.int 60))) [
        .ife (.keep []) (.cmp .eq (.var 3) (.con (.int 0))) [
          .brk] [],
        .app 1 (.keep []) (.bin .mod (.bi .int [(.var 3)]) (.con (.int 997))),
        .asg 3 0 (.keep []) (.bin .fdiv (.var 3) (.con (.int 997)))]] [
      .for (.nm 4) (.keep []) (.rng (.con (.int 0)) (.con (.int 4))) [
        .asg 5 0 (.keep []) (.bin .mod (.bi .int [(.bin .add (.bin .add (.bin .mul (.var 2) (.con (.int 48271))) (.bin .mul (.var 4) (.con (.int 69621)))) (.con (.int 11)))]) (.con (.int 2147483647))),
        .app 1 (.keep []) (.bin .mod (.bi .int [(.bin .add (.bin .mul (.var 5) (.con (.int 16807))) (.var 4))]) (.con (.int 2147483629)))]]],
  .ife .look (.cmp .eq (.bi .len [(.var 1)]) (.con (.int 0))) [
    .app 1 (.keep []) (.con (.int 0))] [],
  .retv 1]
/-- _law_draw: 0 row, 1 at, 2 limit, 3 stirred -/
def b__law_draw : List MS := [
  .ife (.keep []) (.cmp .lt (.var 1) (.bi .len [(.var 0)])) [
    .ret 0 (.keep []) (.bin .mod (.bi .int [(.idx (.var 0) (.var 1))]) (.var 2))] [],
  .asg 3 0 (.keep []) (.bin .mod (.bi .int [(.bin .add (.bin .add (.bin .mul (.idx (.var 0) (.bin .mod (.bi .int [(.var 1)]) (.bi .len [(.var 0)]))) (.con (.int 40692))) (.bin .mul (.var 1) (.con (.int 7919)))) (.con (.int 3)))]) (.con (.int 2147483399))),
  .ret 0 (.keep []) (.bin .mod (.bi .int [(.bin .mod (.bi .int [(.bin .add (.bin .mul (.var 3) (.con (.int 48271))) (.var 1))]) (.con (.int 2147483647)))]) (.var 2))]
/-- _law_take: 0 row, 1 spot, 2 limit -/
def b__law_take : List MS := [
  .set 1 (.con (.int 0)) (.keep []) (.bin .add (.sidx 1 (.con (.int 0))) (.con (.int 1))),
  .ret 0 (.keep []) (.call 16 [(.var 0), (.bin .sub (.sidx 1 (.con (.int 0))) (.con (.int 1))), (.var 2)])]
/-- law: 0 script, 1 row, 2 spot, 3 part, 4 number, 5 a, 6 b, 7 c, 8 needs, 9 sacks, 10 some, 11 best, 12 x, 13 told, 14 short, 15 y, 16 z, 17 k, 18 key, 19 meant, 20 given, 21 i, 22 j -/
def b_law : List MS := [
  .asg 1 0 (.keep []) (.call 15 [(.var 0)]),
  .asg 2 1 (.keep []) (.lst [(.con (.int 0))]),
  .asg 3 0 (.io []) (.call 17 [(.var 1), (.var 2), (.con (.int 40))]),
  .asg 4 0 (.keep []) (.con (.int 0)),
  .for (.nm 5) (.keep []) (.rng (.con (.int 0)) (.con (.int 7))) [
    .for (.nm 6) (.keep []) (.rng (.con (.int 0)) (.con (.int 7))) [
      .for (.nm 7) (.keep []) (.rng (.con (.int 0)) (.con (.int 7))) [
        .asg 4 0 (.keep []) (.bin .add (.var 4) (.con (.int 1))),
        .ife (.keep []) (.cmp .eq (.bin .mod (.bi .int [(.var 4)]) (.con (.int 40))) (.var 3)) [
          .asg 8 0 (.keep []) (.tup [(.var 5), (.var 6), (.var 7)]),
          .for (.nm 9) (.keep []) (.rng (.con (.int 0)) (.bin .add (.bin .add (.bin .add (.var 5) (.var 6)) (.var 7)) (.con (.int 2)))) [
            .asg 10 0 (.keep []) (.bi .min2 [(.var 9), (.bin .add (.bin .add (.var 5) (.var 6)) (.var 7))]),
            .asg 11 0 (.keep []) (.con .none),
            .for (.nm 12) (.keep []) (.rng (.con (.int 0)) (.bin .add (.bi .min2 [(.var 5), (.var 10)]) (.con (.int 1)))) [
              .for (.nm 15) (.keep []) (.rng (.con (.int 0)) (.bin .add (.bi .min2 [(.var 6), (.bin .sub (.var 10) (.var 12))]) (.con (.int 1)))) [
                .asg 16 0 (.keep []) (.bin .sub (.bin .sub (.var 10) (.var 12)) (.var 15)),
                .ife (.keep []) (.cmp .le (.var 16) (.var 7)) [
                  .asg 18 0 (.keep []) (.tup [(.bi .tuple [(.bi .sorted [(.lst [(.var 12), (.var 15), (.var 16)])])]), (.tup [(.var 12), (.var 15), (.var 16)])]),
                  .asg 11 0 (.keep []) (.ite (.or (.cmp .isn (.var 11) (.con .none)) (.cmp .gt (.var 18) (.var 11))) (.var 18) (.var 11)),
                  .asg 19 0 (.keep []) (.lst []),
                  .asg 20 0 (.keep []) (.tup [(.var 12), (.var 15), (.var 16)]),
                  .for (.nm 21) (.keep []) (.rng (.con (.int 0)) (.con (.int 3))) [
                    .asg 19 0 (.keep []) (.bin .add (.var 19) (.comp (.tup [(.var 21), (.var 22)]) (.nm 22) (.rng (.con (.int 0)) (.con (.int 3))) (some (.and (.cmp .lt (.idx (.var 20) (.var 21)) (.idx (.var 8) (.var 21))) (.cmp .ge (.bin .sub (.idx (.var 20) (.var 22)) (.idx (.var 20) (.var 21))) (.con (.int 2)))))))],
                  .ife (.keep []) (.and (.cmp .eq (.bin .mod (.bi .int [(.bin .add (.var 12) (.var 15))]) (.con (.int 3))) (.con (.int 0))) (.cmp .ne (.call 14 [(.var 8), (.var 20)]) (.bi .tuple [(.var 19)]))) [
                    .ret 0 (.keep []) (.con (.bool false))] []] []]],
            .asg 13 0 (.keep []) (.call 12 [(.var 8), (.var 9)]),
            .ife (.keep []) (.cmp .ne (.var 13) (.idx (.var 11) (.con (.int 1)))) [
              .ret 0 (.keep []) (.con (.bool false))] [],
            .asg 14 0 (.keep []) (.comp (.idx (.var 13) (.var 17)) (.nm 17) (.rng (.con (.int 0)) (.con (.int 3))) (some (.cmp .lt (.idx (.var 13) (.var 17)) (.idx (.var 8) (.var 17))))),
            .ife (.keep []) (.cmp .ne (.call 13 [(.var 8), (.var 9)]) (.ite (.cmp .gt (.bi .len [(.var 14)]) (.con (.int 0))) (.bi .min1 [(.var 14)]) (.con .none))) [
              .ret 0 (.keep []) (.con (.bool false))] []]] []]]],
  .ret 0 (.keep []) (.con (.bool true))]
def fns : List Fn := [⟨1, 2, [], 0, b_plain⟩, ⟨2, 2, [], 1, b_require⟩, ⟨1, 1, [], 0, b_is_integer⟩, ⟨1, 1, [], 0, b_is_natural⟩, ⟨3, 3, [], 0, b_is_between⟩, ⟨3, 3, [], 0, b_is_sequence⟩, ⟨3, 4, [], 0, b_are_between⟩, ⟨2, 3, [], 0, b_are_numbers⟩, ⟨1, 1, [], 0, b_are_needs⟩, ⟨2, 3, [], 0, b_given_up_to⟩, ⟨2, 3, [], 0, b_full_level⟩, ⟨2, 7, [], 0, b_shared_out⟩, ⟨2, 2, [], 0, b_rations⟩, ⟨2, 5, [], 0, b_level_of⟩, ⟨2, 5, [], 0, b_envies⟩, ⟨1, 6, [], 1, b__law_numbers⟩, ⟨3, 4, [], 0, b__law_draw⟩, ⟨3, 3, [1], 0, b__law_take⟩, ⟨1, 23, [], 1, b_law⟩]
def tab : Nat → Option Fn := fun i => fns[i]?
abbrev f_plain : Nat := 0
abbrev f_require : Nat := 1
abbrev f_is_integer : Nat := 2
abbrev f_is_natural : Nat := 3
abbrev f_is_between : Nat := 4
abbrev f_is_sequence : Nat := 5
abbrev f_are_between : Nat := 6
abbrev f_are_numbers : Nat := 7
abbrev f_are_needs : Nat := 8
abbrev f_given_up_to : Nat := 9
abbrev f_full_level : Nat := 10
abbrev f_shared_out : Nat := 11
abbrev f_rations : Nat := 12
abbrev f_level_of : Nat := 13
abbrev f_envies : Nat := 14
abbrev f__law_numbers : Nat := 15
abbrev f__law_draw : Nat := 16
abbrev f__law_take : Nat := 17
abbrev f_law : Nat := 18

abbrev prg : Program := PySem.Challenge.pw_cornwright_k69_all_small_famines
def defOf1 : Stmt → Option He.DefD
  | .FunctionDef n a b _ _ _ sc _ _ _ => some ⟨(n, none), n, n, a, b, sc, [], []⟩
  | _ => none
def glo1 : Stmt → Option He.Fa
  | .FunctionDef n _ _ _ _ _ _ _ _ _ => some (.glo n)
  | .Assign [.Name x _] (.Constant (.int i) _ _) _ => some (.int x i)
  | _ => none
def fnD : List He.DefD := prg.main.body.filterMap defOf1
def bltL : List Str := ["len", "isinstance", "int", "bool", "str", "list", "tuple", "range", "min", "max", "sum", "sorted", "all", "any", "abs", "enumerate", "zip", "reversed"]
def faD : List He.Fa := prg.main.body.filterMap glo1 ++ bltL.map .free
abbrev Rw : PySem.W.OpenRow := PySem.W.OpenLaw.row PySem.Challenge.rw_cornwright_k69_all_small_famines
abbrev hkD : PySem.W.Hook := He.hookD 4 faD fnD
def obD (s : PySem.W.SharedT) : He.AlD := He.obsDG 4 faD fnD (HandSHeadRun.getT s)
theorem ob_eq (s : PySem.W.SharedT) : obD s = hkD.obs s.abs := He.obsDG_eq (HandSHeadRun.getT_eq s)
def names : List Str := ["plain", "CornError", "BadValue", "require", "is_integer", "is_natural", "is_between", "is_sequence", "are_between", "MOST_THINGS", "are_numbers", "MOST_NEEDS", "MOST_NEED", "MOST_SACKS", "are_needs", "given_up_to", "full_level", "shared_out", "rations", "level_of", "envies", "_law_numbers", "_law_draw", "_law_take"]
def topS (i : Nat) : Stmt := prg.main.body.getD i (.Pass ⟨0, 0, 0, 0⟩)
def ixOf (x : Str) : Nat := (prg.main.body.findIdx? fun | .FunctionDef n _ _ _ _ _ _ _ _ _ => decide (n = x) | _ => false).getD 0
def nmL : List (Str × Nat) := [("plain", 0), ("require", 1), ("is_integer", 2), ("is_natural", 3), ("is_between", 4), ("is_sequence", 5), ("are_between", 6), ("are_numbers", 7), ("are_needs", 8), ("given_up_to", 9), ("full_level", 10), ("shared_out", 11), ("rations", 12), ("level_of", 13), ("envies", 14), ("_law_numbers", 15), ("_law_draw", 16), ("_law_take", 17), ("law", 18)]
def cstL : List (Str × Int) := [("MOST_THINGS", 5000), ("MOST_NEEDS", 6), ("MOST_NEED", 1000), ("MOST_SACKS", 6000)]
def cp : CkP := ⟨[], fun x => nmL.lookup x, fun x => (cstL.lookup x).map PyData.int, fun x => bltL.contains x, tab⟩
abbrev st_plain : Stmt := topS 1
def d_plain : He.DefD := ⟨("plain", none), "plain", "plain", defArgs st_plain, defBody st_plain, defScope st_plain, [], []⟩
def N_plain : List Str := ["value", "part"]
def F_plain : Fn := ⟨1, 2, [], 0, b_plain⟩
abbrev st_require : Stmt := topS 6
def d_require : He.DefD := ⟨("require", none), "require", "require", defArgs st_require, defBody st_require, defScope st_require, [], []⟩
def N_require : List Str := ["holds", "at"]
def F_require : Fn := ⟨2, 2, [], 1, b_require⟩
abbrev st_is_integer : Stmt := topS 7
def d_is_integer : He.DefD := ⟨("is_integer", none), "is_integer", "is_integer", defArgs st_is_integer, defBody st_is_integer, defScope st_is_integer, [], []⟩
def N_is_integer : List Str := ["value"]
def F_is_integer : Fn := ⟨1, 1, [], 0, b_is_integer⟩
abbrev st_is_natural : Stmt := topS 8
def d_is_natural : He.DefD := ⟨("is_natural", none), "is_natural", "is_natural", defArgs st_is_natural, defBody st_is_natural, defScope st_is_natural, [], []⟩
def N_is_natural : List Str := ["value"]
def F_is_natural : Fn := ⟨1, 1, [], 0, b_is_natural⟩
abbrev st_is_between : Stmt := topS 9
def d_is_between : He.DefD := ⟨("is_between", none), "is_between", "is_between", defArgs st_is_between, defBody st_is_between, defScope st_is_between, [], []⟩
def N_is_between : List Str := ["value", "low", "high"]
def F_is_between : Fn := ⟨3, 3, [], 0, b_is_between⟩
abbrev st_is_sequence : Stmt := topS 10
def d_is_sequence : He.DefD := ⟨("is_sequence", none), "is_sequence", "is_sequence", defArgs st_is_sequence, defBody st_is_sequence, defScope st_is_sequence, [], []⟩
def N_is_sequence : List Str := ["value", "least", "most"]
def F_is_sequence : Fn := ⟨3, 3, [], 0, b_is_sequence⟩
abbrev st_are_between : Stmt := topS 11
def d_are_between : He.DefD := ⟨("are_between", none), "are_between", "are_between", defArgs st_are_between, defBody st_are_between, defScope st_are_between, [], []⟩
def N_are_between : List Str := ["values", "low", "high", "value"]
def F_are_between : Fn := ⟨3, 4, [], 0, b_are_between⟩
abbrev st_are_numbers : Stmt := topS 14
def d_are_numbers : He.DefD := ⟨("are_numbers", none), "are_numbers", "are_numbers", defArgs st_are_numbers, defBody st_are_numbers, defScope st_are_numbers, [], []⟩
def N_are_numbers : List Str := ["value", "many", "number"]
def F_are_numbers : Fn := ⟨2, 3, [], 0, b_are_numbers⟩
abbrev st_are_needs : Stmt := topS 19
def d_are_needs : He.DefD := ⟨("are_needs", none), "are_needs", "are_needs", defArgs st_are_needs, defBody st_are_needs, defScope st_are_needs, [], []⟩
def N_are_needs : List Str := ["value"]
def F_are_needs : Fn := ⟨1, 1, [], 0, b_are_needs⟩
abbrev st_given_up_to : Stmt := topS 20
def d_given_up_to : He.DefD := ⟨("given_up_to", none), "given_up_to", "given_up_to", defArgs st_given_up_to, defBody st_given_up_to, defScope st_given_up_to, [], []⟩
def N_given_up_to : List Str := ["needs", "level", "need"]
def F_given_up_to : Fn := ⟨2, 3, [], 0, b_given_up_to⟩
abbrev st_full_level : Stmt := topS 21
def d_full_level : He.DefD := ⟨("full_level", none), "full_level", "full_level", defArgs st_full_level, defBody st_full_level, defScope st_full_level, [], []⟩
def N_full_level : List Str := ["needs", "many", "level"]
def F_full_level : Fn := ⟨2, 3, [], 0, b_full_level⟩
abbrev st_shared_out : Stmt := topS 22
def d_shared_out : He.DefD := ⟨("shared_out", none), "shared_out", "shared_out", defArgs st_shared_out, defBody st_shared_out, defScope st_shared_out, [], []⟩
def N_shared_out : List Str := ["needs", "sacks", "many", "level", "left", "given", "need"]
def F_shared_out : Fn := ⟨2, 7, [], 0, b_shared_out⟩
abbrev st_rations : Stmt := topS 23
def d_rations : He.DefD := ⟨("rations", none), "rations", "rations", defArgs st_rations, defBody st_rations, defScope st_rations, [], []⟩
def N_rations : List Str := ["needs", "sacks"]
def F_rations : Fn := ⟨2, 2, [], 0, b_rations⟩
abbrev st_level_of : Stmt := topS 24
def d_level_of : He.DefD := ⟨("level_of", none), "level_of", "level_of", defArgs st_level_of, defBody st_level_of, defScope st_level_of, [], []⟩
def N_level_of : List Str := ["needs", "sacks", "given", "short", "at"]
def F_level_of : Fn := ⟨2, 5, [], 0, b_level_of⟩
abbrev st_envies : Stmt := topS 25
def d_envies : He.DefD := ⟨("envies", none), "envies", "envies", defArgs st_envies, defBody st_envies, defScope st_envies, [], []⟩
def N_envies : List Str := ["needs", "given", "pairs", "i", "j"]
def F_envies : Fn := ⟨2, 5, [], 0, b_envies⟩
abbrev st__law_numbers : Stmt := topS 27
def d__law_numbers : He.DefD := ⟨("_law_numbers", none), "_law_numbers", "_law_numbers", defArgs st__law_numbers, defBody st__law_numbers, defScope st__law_numbers, [], []⟩
def N__law_numbers : List Str := ["script", "row", "single", "left", "k", "stirred"]
def F__law_numbers : Fn := ⟨1, 6, [], 1, b__law_numbers⟩
abbrev st__law_draw : Stmt := topS 28
def d__law_draw : He.DefD := ⟨("_law_draw", none), "_law_draw", "_law_draw", defArgs st__law_draw, defBody st__law_draw, defScope st__law_draw, [], []⟩
def N__law_draw : List Str := ["row", "at", "limit", "stirred"]
def F__law_draw : Fn := ⟨3, 4, [], 0, b__law_draw⟩
abbrev st__law_take : Stmt := topS 29
def d__law_take : He.DefD := ⟨("_law_take", none), "_law_take", "_law_take", defArgs st__law_take, defBody st__law_take, defScope st__law_take, [], []⟩
def N__law_take : List Str := ["row", "spot", "limit"]
def F__law_take : Fn := ⟨3, 3, [1], 0, b__law_take⟩
abbrev st_law : Stmt := topS 30
def d_law : He.DefD := ⟨("law", none), "law", "law", defArgs st_law, defBody st_law, defScope st_law, [], []⟩
def N_law : List Str := ["script", "row", "spot", "part", "number", "a", "b", "c", "needs", "sacks", "some", "best", "x", "told", "short", "y", "z", "k", "key", "meant", "given", "i", "j"]
def F_law : Fn := ⟨1, 23, [], 1, b_law⟩
section
variable {K : Fr} {h : Heap} {mg : Str → Option Value}
theorem ft_plain (KX : K.In h) (G : h.Ns mainGlobals mg) (c : He.SaysD faD fnD K) : FnTab K mg cp "plain" F_plain := by
  obtain ⟨fd, F⟩ := c.def_ 0 (d := d_plain) (by kernel_rfl)
  have b : L2.Binds K fd ["value"] [] := F.bindsN fun _ _ _ _ _ _ us hl => match us, hl with | [_], _ => by kernel_rfl
  exact ⟨_, fd, _, _, _, _, _, N_plain, _, F, He.glo_ok KX G (c.fact 0 (f := .glo "plain") (by kernel_rfl)), b, by kernel_rfl⟩
theorem ft_require (KX : K.In h) (G : h.Ns mainGlobals mg) (c : He.SaysD faD fnD K) : FnTab K mg cp "require" F_require := by
  obtain ⟨fd, F⟩ := c.def_ 1 (d := d_require) (by kernel_rfl)
  have b : L2.Binds K fd ["holds", "at"] [] := F.bindsN fun _ _ _ _ _ _ us hl => match us, hl with | [_, _], _ => by kernel_rfl
  exact ⟨_, fd, _, _, _, _, _, N_require, _, F, He.glo_ok KX G (c.fact 1 (f := .glo "require") (by kernel_rfl)), b, by kernel_rfl⟩
theorem ft_is_integer (KX : K.In h) (G : h.Ns mainGlobals mg) (c : He.SaysD faD fnD K) : FnTab K mg cp "is_integer" F_is_integer := by
  obtain ⟨fd, F⟩ := c.def_ 2 (d := d_is_integer) (by kernel_rfl)
  have b : L2.Binds K fd ["value"] [] := F.bindsN fun _ _ _ _ _ _ us hl => match us, hl with | [_], _ => by kernel_rfl
  exact ⟨_, fd, _, _, _, _, _, N_is_integer, _, F, He.glo_ok KX G (c.fact 2 (f := .glo "is_integer") (by kernel_rfl)), b, by kernel_rfl⟩
theorem ft_is_natural (KX : K.In h) (G : h.Ns mainGlobals mg) (c : He.SaysD faD fnD K) : FnTab K mg cp "is_natural" F_is_natural := by
  obtain ⟨fd, F⟩ := c.def_ 3 (d := d_is_natural) (by kernel_rfl)
  have b : L2.Binds K fd ["value"] [] := F.bindsN fun _ _ _ _ _ _ us hl => match us, hl with | [_], _ => by kernel_rfl
  exact ⟨_, fd, _, _, _, _, _, N_is_natural, _, F, He.glo_ok KX G (c.fact 3 (f := .glo "is_natural") (by kernel_rfl)), b, by kernel_rfl⟩
theorem ft_is_between (KX : K.In h) (G : h.Ns mainGlobals mg) (c : He.SaysD faD fnD K) : FnTab K mg cp "is_between" F_is_between := by
  obtain ⟨fd, F⟩ := c.def_ 4 (d := d_is_between) (by kernel_rfl)
  have b : L2.Binds K fd ["value", "low", "high"] [] := F.bindsN fun _ _ _ _ _ _ us hl => match us, hl with | [_, _, _], _ => by kernel_rfl
  exact ⟨_, fd, _, _, _, _, _, N_is_between, _, F, He.glo_ok KX G (c.fact 4 (f := .glo "is_between") (by kernel_rfl)), b, by kernel_rfl⟩
theorem ft_is_sequence (KX : K.In h) (G : h.Ns mainGlobals mg) (c : He.SaysD faD fnD K) : FnTab K mg cp "is_sequence" F_is_sequence := by
  obtain ⟨fd, F⟩ := c.def_ 5 (d := d_is_sequence) (by kernel_rfl)
  have b : L2.Binds K fd ["value", "least", "most"] [] := F.bindsN fun _ _ _ _ _ _ us hl => match us, hl with | [_, _, _], _ => by kernel_rfl
  exact ⟨_, fd, _, _, _, _, _, N_is_sequence, _, F, He.glo_ok KX G (c.fact 5 (f := .glo "is_sequence") (by kernel_rfl)), b, by kernel_rfl⟩
theorem ft_are_between (KX : K.In h) (G : h.Ns mainGlobals mg) (c : He.SaysD faD fnD K) : FnTab K mg cp "are_between" F_are_between := by
  obtain ⟨fd, F⟩ := c.def_ 6 (d := d_are_between) (by kernel_rfl)
  have b : L2.Binds K fd ["values", "low", "high"] [] := F.bindsN fun _ _ _ _ _ _ us hl => match us, hl with | [_, _, _], _ => by kernel_rfl
  exact ⟨_, fd, _, _, _, _, _, N_are_between, _, F, He.glo_ok KX G (c.fact 6 (f := .glo "are_between") (by kernel_rfl)), b, by kernel_rfl⟩
theorem ft_are_numbers (KX : K.In h) (G : h.Ns mainGlobals mg) (c : He.SaysD faD fnD K) : FnTab K mg cp "are_numbers" F_are_numbers := by
  obtain ⟨fd, F⟩ := c.def_ 7 (d := d_are_numbers) (by kernel_rfl)
  have b : L2.Binds K fd ["value", "many"] [] := F.bindsN fun _ _ _ _ _ _ us hl => match us, hl with | [_, _], _ => by kernel_rfl
  exact ⟨_, fd, _, _, _, _, _, N_are_numbers, _, F, He.glo_ok KX G (c.fact 8 (f := .glo "are_numbers") (by kernel_rfl)), b, by kernel_rfl⟩
theorem ft_are_needs (KX : K.In h) (G : h.Ns mainGlobals mg) (c : He.SaysD faD fnD K) : FnTab K mg cp "are_needs" F_are_needs := by
  obtain ⟨fd, F⟩ := c.def_ 8 (d := d_are_needs) (by kernel_rfl)
  have b : L2.Binds K fd ["value"] [] := F.bindsN fun _ _ _ _ _ _ us hl => match us, hl with | [_], _ => by kernel_rfl
  exact ⟨_, fd, _, _, _, _, _, N_are_needs, _, F, He.glo_ok KX G (c.fact 12 (f := .glo "are_needs") (by kernel_rfl)), b, by kernel_rfl⟩
theorem ft_given_up_to (KX : K.In h) (G : h.Ns mainGlobals mg) (c : He.SaysD faD fnD K) : FnTab K mg cp "given_up_to" F_given_up_to := by
  obtain ⟨fd, F⟩ := c.def_ 9 (d := d_given_up_to) (by kernel_rfl)
  have b : L2.Binds K fd ["needs", "level"] [] := F.bindsN fun _ _ _ _ _ _ us hl => match us, hl with | [_, _], _ => by kernel_rfl
  exact ⟨_, fd, _, _, _, _, _, N_given_up_to, _, F, He.glo_ok KX G (c.fact 13 (f := .glo "given_up_to") (by kernel_rfl)), b, by kernel_rfl⟩
theorem ft_full_level (KX : K.In h) (G : h.Ns mainGlobals mg) (c : He.SaysD faD fnD K) : FnTab K mg cp "full_level" F_full_level := by
  obtain ⟨fd, F⟩ := c.def_ 10 (d := d_full_level) (by kernel_rfl)
  have b : L2.Binds K fd ["needs", "many"] [] := F.bindsN fun _ _ _ _ _ _ us hl => match us, hl with | [_, _], _ => by kernel_rfl
  exact ⟨_, fd, _, _, _, _, _, N_full_level, _, F, He.glo_ok KX G (c.fact 14 (f := .glo "full_level") (by kernel_rfl)), b, by kernel_rfl⟩
theorem ft_shared_out (KX : K.In h) (G : h.Ns mainGlobals mg) (c : He.SaysD faD fnD K) : FnTab K mg cp "shared_out" F_shared_out := by
  obtain ⟨fd, F⟩ := c.def_ 11 (d := d_shared_out) (by kernel_rfl)
  have b : L2.Binds K fd ["needs", "sacks"] [] := F.bindsN fun _ _ _ _ _ _ us hl => match us, hl with | [_, _], _ => by kernel_rfl
  exact ⟨_, fd, _, _, _, _, _, N_shared_out, _, F, He.glo_ok KX G (c.fact 15 (f := .glo "shared_out") (by kernel_rfl)), b, by kernel_rfl⟩
theorem ft_rations (KX : K.In h) (G : h.Ns mainGlobals mg) (c : He.SaysD faD fnD K) : FnTab K mg cp "rations" F_rations := by
  obtain ⟨fd, F⟩ := c.def_ 12 (d := d_rations) (by kernel_rfl)
  have b : L2.Binds K fd ["needs", "sacks"] [] := F.bindsN fun _ _ _ _ _ _ us hl => match us, hl with | [_, _], _ => by kernel_rfl
  exact ⟨_, fd, _, _, _, _, _, N_rations, _, F, He.glo_ok KX G (c.fact 16 (f := .glo "rations") (by kernel_rfl)), b, by kernel_rfl⟩
theorem ft_level_of (KX : K.In h) (G : h.Ns mainGlobals mg) (c : He.SaysD faD fnD K) : FnTab K mg cp "level_of" F_level_of := by
  obtain ⟨fd, F⟩ := c.def_ 13 (d := d_level_of) (by kernel_rfl)
  have b : L2.Binds K fd ["needs", "sacks"] [] := F.bindsN fun _ _ _ _ _ _ us hl => match us, hl with | [_, _], _ => by kernel_rfl
  exact ⟨_, fd, _, _, _, _, _, N_level_of, _, F, He.glo_ok KX G (c.fact 17 (f := .glo "level_of") (by kernel_rfl)), b, by kernel_rfl⟩
theorem ft_envies (KX : K.In h) (G : h.Ns mainGlobals mg) (c : He.SaysD faD fnD K) : FnTab K mg cp "envies" F_envies := by
  obtain ⟨fd, F⟩ := c.def_ 14 (d := d_envies) (by kernel_rfl)
  have b : L2.Binds K fd ["needs", "given"] [] := F.bindsN fun _ _ _ _ _ _ us hl => match us, hl with | [_, _], _ => by kernel_rfl
  exact ⟨_, fd, _, _, _, _, _, N_envies, _, F, He.glo_ok KX G (c.fact 18 (f := .glo "envies") (by kernel_rfl)), b, by kernel_rfl⟩
theorem ft__law_numbers (KX : K.In h) (G : h.Ns mainGlobals mg) (c : He.SaysD faD fnD K) : FnTab K mg cp "_law_numbers" F__law_numbers := by
  obtain ⟨fd, F⟩ := c.def_ 15 (d := d__law_numbers) (by kernel_rfl)
  have b : L2.Binds K fd ["script"] [] := F.bindsN fun _ _ _ _ _ _ us hl => match us, hl with | [_], _ => by kernel_rfl
  exact ⟨_, fd, _, _, _, _, _, N__law_numbers, _, F, He.glo_ok KX G (c.fact 19 (f := .glo "_law_numbers") (by kernel_rfl)), b, by kernel_rfl⟩
theorem ft__law_draw (KX : K.In h) (G : h.Ns mainGlobals mg) (c : He.SaysD faD fnD K) : FnTab K mg cp "_law_draw" F__law_draw := by
  obtain ⟨fd, F⟩ := c.def_ 16 (d := d__law_draw) (by kernel_rfl)
  have b : L2.Binds K fd ["row", "at", "limit"] [] := F.bindsN fun _ _ _ _ _ _ us hl => match us, hl with | [_, _, _], _ => by kernel_rfl
  exact ⟨_, fd, _, _, _, _, _, N__law_draw, _, F, He.glo_ok KX G (c.fact 20 (f := .glo "_law_draw") (by kernel_rfl)), b, by kernel_rfl⟩
theorem ft__law_take (KX : K.In h) (G : h.Ns mainGlobals mg) (c : He.SaysD faD fnD K) : FnTab K mg cp "_law_take" F__law_take := by
  obtain ⟨fd, F⟩ := c.def_ 17 (d := d__law_take) (by kernel_rfl)
  have b : L2.Binds K fd ["row", "spot", "limit"] [] := F.bindsN fun _ _ _ _ _ _ us hl => match us, hl with | [_, _, _], _ => by kernel_rfl
  exact ⟨_, fd, _, _, _, _, _, N__law_take, _, F, He.glo_ok KX G (c.fact 21 (f := .glo "_law_take") (by kernel_rfl)), b, by kernel_rfl⟩
theorem ft_law (KX : K.In h) (G : h.Ns mainGlobals mg) (c : He.SaysD faD fnD K) : FnTab K mg cp "law" F_law := by
  obtain ⟨fd, F⟩ := c.def_ 18 (d := d_law) (by kernel_rfl)
  have b : L2.Binds K fd ["script"] [] := F.bindsN fun _ _ _ _ _ _ us hl => match us, hl with | [_], _ => by kernel_rfl
  exact ⟨_, fd, _, _, _, _, _, N_law, _, F, He.glo_ok KX G (c.fact 22 (f := .glo "law") (by kernel_rfl)), b, by kernel_rfl⟩
theorem tab_ok (KX : K.In h) (G : h.Ns mainGlobals mg) (c : He.SaysD faD fnD K) : ∀ x f fn, cp.fn x = some f → cp.T f = some fn → FnTab K mg cp x fn := by
  intro x f fn h1 h2
  have m : (x, f) ∈ nmL := mem_lookup2 h1
  simp only [nmL, List.mem_cons, List.not_mem_nil, or_false, Prod.mk.injEq] at m
  have h2 : fns[f]? = some fn := h2
  rcases m with ⟨rfl, rfl⟩ | ⟨rfl, rfl⟩ | ⟨rfl, rfl⟩ | ⟨rfl, rfl⟩ | ⟨rfl, rfl⟩ | ⟨rfl, rfl⟩ | ⟨rfl, rfl⟩ | ⟨rfl, rfl⟩ | ⟨rfl, rfl⟩ | ⟨rfl, rfl⟩ | ⟨rfl, rfl⟩ | ⟨rfl, rfl⟩ | ⟨rfl, rfl⟩ | ⟨rfl, rfl⟩ | ⟨rfl, rfl⟩ | ⟨rfl, rfl⟩ | ⟨rfl, rfl⟩ | ⟨rfl, rfl⟩ | ⟨rfl, rfl⟩
  · cases (show F_plain = fn from Option.some.inj h2)
    exact ft_plain KX G c
  · cases (show F_require = fn from Option.some.inj h2)
    exact ft_require KX G c
  · cases (show F_is_integer = fn from Option.some.inj h2)
    exact ft_is_integer KX G c
  · cases (show F_is_natural = fn from Option.some.inj h2)
    exact ft_is_natural KX G c
  · cases (show F_is_between = fn from Option.some.inj h2)
    exact ft_is_between KX G c
  · cases (show F_is_sequence = fn from Option.some.inj h2)
    exact ft_is_sequence KX G c
  · cases (show F_are_between = fn from Option.some.inj h2)
    exact ft_are_between KX G c
  · cases (show F_are_numbers = fn from Option.some.inj h2)
    exact ft_are_numbers KX G c
  · cases (show F_are_needs = fn from Option.some.inj h2)
    exact ft_are_needs KX G c
  · cases (show F_given_up_to = fn from Option.some.inj h2)
    exact ft_given_up_to KX G c
  · cases (show F_full_level = fn from Option.some.inj h2)
    exact ft_full_level KX G c
  · cases (show F_shared_out = fn from Option.some.inj h2)
    exact ft_shared_out KX G c
  · cases (show F_rations = fn from Option.some.inj h2)
    exact ft_rations KX G c
  · cases (show F_level_of = fn from Option.some.inj h2)
    exact ft_level_of KX G c
  · cases (show F_envies = fn from Option.some.inj h2)
    exact ft_envies KX G c
  · cases (show F__law_numbers = fn from Option.some.inj h2)
    exact ft__law_numbers KX G c
  · cases (show F__law_draw = fn from Option.some.inj h2)
    exact ft__law_draw KX G c
  · cases (show F__law_take = fn from Option.some.inj h2)
    exact ft__law_take KX G c
  · cases (show F_law = fn from Option.some.inj h2)
    exact ft_law KX G c
theorem blt_ok (KX : K.In h) (G : h.Ns mainGlobals mg) (c : He.SaysD faD fnD K) : ∀ x, cp.blt x = true → mg x = none := by
  intro x hx
  have m : x ∈ bltL := List.contains_iff_mem.mp hx
  have c1 := (He.ba (show ((faD.all fun f => f.ok K) && fnD.all fun d => d.ok K) = true from congrArg (fun z : He.AlD => z.1) c)).1
  exact He.free_ok KX G (List.all_eq_true.mp c1 (.free x) (List.mem_append_right _ (List.mem_map.mpr ⟨x, m, rfl⟩)))
theorem cst_ok (KX : K.In h) (G : h.Ns mainGlobals mg) (c : He.SaysD faD fnD K) : ∀ x d, cp.cst x = some d → ∃ v u, mg x = some u ∧ RelV v u ∧ (∀ (H : Hp) S, Rep K H S v d) ∧ ∀ ds, d ≠ .list ds := by
  intro x d hx
  obtain ⟨i, hi, rfl⟩ := Option.map_eq_some_iff.mp hx
  have m : (x, i) ∈ cstL := mem_lookup2 hi
  have c1 := (He.ba (show ((faD.all fun f => f.ok K) && fnD.all fun d => d.ok K) = true from congrArg (fun z : He.AlD => z.1) c)).1
  have m2 : (cstL.all fun p => faD.any fun f => match f with | .int y j => decide (y = p.1) && decide (j = p.2) | _ => false) = true := by kernel_rfl
  obtain ⟨f, hf, e⟩ := List.any_eq_true.mp (List.all_eq_true.mp m2 _ m)
  cases f <;> simp only [Bool.false_eq_true, Bool.and_eq_true, decide_eq_true_eq] at e
  obtain ⟨rfl, rfl⟩ := e
  obtain ⟨t, ht⟩ := He.int_ok KX G (List.all_eq_true.mp c1 _ hf)
  exact ⟨.int _, _, ht, ⟨t, rfl⟩, fun _ _ => .int _, fun _ e => nomatch e⟩
theorem lawF (c : He.SaysD faD fnD K) : ∃ fd, FunD K "law" "law" (defArgs st_law) (defBody st_law) (defScope st_law) [] [] (He.ga K "law") fd ∧ (∀ (s : Shared) (u : Value), BindsTo s fd ⟨[u], []⟩ [("script", u)]) := by
  obtain ⟨fd, F⟩ := c.def_ 18 (d := d_law) (by kernel_rfl)
  exact ⟨fd, F, fun s u => FunD.bindsA (ps := ["script"]) F (fun _ _ _ _ _ _ us hl => match us, hl with | [_], _ => by kernel_rfl) s [u] rfl⟩
end
theorem run (w : World) : HandSHeadRun.RunEq Rw (PySem.W.view Rw.prog [30]) hkD obD 2000 names w := by
  intro os
  kernel_rfl
end Cw
open PySem PySem.W PySem.Calls PyProof.Rows
theorem law_holds (plain : ∀ ns : List Int, ns.length ≤ 63 → Cw.callF Cw.tab 60 Cw.f_law [.list (ns.map .int)] = .ok (.bool true) []) : PySem.Challenge.rw_cornwright_k69_all_small_famines.Holds := by
  w_on; o_law
  refine HandSHeadRun.head_any (r := OpenLaw.row PySem.Challenge.rw_cornwright_k69_all_small_famines) (q := view (OpenLaw.row PySem.Challenge.rw_cornwright_k69_all_small_famines).prog [30]) (H := Cw.hkD) (ob := Cw.obD) (M := 2000) (loose := Cw.names) (d := HandSHeadRun.topDef (OpenLaw.row PySem.Challenge.rw_cornwright_k69_all_small_famines).prog 30) (kwd := []) Cw.ob_eq
    (by kernel_rfl) (fun s => by kernel_rfl) Cw.run (by kernel_rfl) (by kernel_rfl) (by kernel_rfl) (by rfl) (by first | assumption | decide +kernel) (by decide +kernel) ⟨rfl, rfl, rfl, rfl, rfl, by decide +kernel⟩ ?hw ?hc
  case hw => w_witness2
  case hc =>
    refine L2.walk_ofE (l := PySem.Challenge.rw_cornwright_k69_all_small_famines) (n := 63) (k := 60) (x := "script") (CX := Cw.CXe) rfl (by decide) (by kernel_rfl) ⟨rfl, by decide, by decide⟩ ?F Cw.cxe_no
    intro w mg fa h Y G hmg0
    obtain ⟨K, KX, c⟩ := Y
    have hmg : mg ("law" : PySem.Str) = some (.ref fa) := by
      have e : (HandSHeadRun.topDef (OpenLaw.row PySem.Challenge.rw_cornwright_k69_all_small_famines).prog 30).name = ("law" : PySem.Str) := by kernel_rfl
      rw [← e]
      exact hmg0
    obtain ⟨fd, F, hb⟩ := Cw.lawF c
    exact Cw.law_end (P := Cw.cp) (N := Cw.N_law) (n := 59) (fn := Cw.F_law) (f := Cw.f_law) KX hmg F (He.glo_ok KX G (c.fact 22 (f := .glo "law") (by kernel_rfl))) hb (by kernel_rfl) (by rfl) (by rfl) (by rfl) (by decide) plain (Cw.tab_ok KX G c) (Cw.blt_ok KX G c) (Cw.cst_ok KX G c)
end

section
namespace Cw
open PySem
theorem c_is_integer (n : Nat) (i : Int) : Cal (callF tab (n + 1)) f_is_integer [.int i] (.bool true) := ⟨rfl⟩
theorem c_require (n : Nat) (d : D) : Cal (callF tab (n + 1)) f_require [.bool true, d] .none := ⟨rfl⟩
theorem c_is_natural (n : Nat) (i : Int) : Cal (callF tab (n + 2)) f_is_natural [.int i] (.bool (decide (0 ≤ i))) := by
  refine call_ret (n := n + 1) rfl rfl rfl (ss_ret (s_ret (m_keep ?_))) rfl
  apply ev_as
  · repeat' first
    | exact ev_con
    | exact ev_var rfl
    | exact r_ge _ _
    | exact as_nil
    | exact c_is_integer _ _
    | apply ev_cmp
    | (apply ev_and; rotate_left; intro _)
    | apply as_cons
    | apply ev_call rfl rfl
  · simp
theorem c_is_between (n : Nat) (v lo hi : Int) : Cal (callF tab (n + 2)) f_is_between [.int v, .int lo, .int hi] (.bool (decide (lo ≤ v) && decide (v ≤ hi))) := by
  refine call_ret (n := n + 1) rfl rfl rfl (ss_ret (s_ret (m_keep ?_))) rfl
  apply ev_as
  · repeat' first
    | exact ev_con
    | exact ev_var rfl
    | exact r_le _ _
    | exact as_nil
    | exact c_is_integer _ _
    | apply ev_cmp
    | apply ev_chain
    | (apply ev_and; rotate_left; intro _)
    | apply as_cons
    | apply ev_call rfl rfl
  · simp
theorem c_is_sequenceT (n : Nat) (xs : List D) (hp : PyData.plainAll xs = true) (lo hi : Int) : Cal (callF tab (n + 1)) f_is_sequence [.tuple xs, .int lo, .int hi] (.bool (decide (lo ≤ xs.length) && decide ((xs.length : Int) ≤ hi))) := by
  refine call_ret (n := n) rfl rfl rfl (ss_ret (s_ret (m_keep ?_))) rfl
  apply ev_as
  · repeat' first
    | exact ev_con
    | exact ev_var rfl
    | exact r_le _ _
    | exact as_nil
    | exact bi_lenT _
    | exact evs_nil
    | exact hp
    | apply ev_chain
    | apply ev_isa (k := true)
    | (apply ev_and; rotate_left; intro _)
    | apply ev_bi
    | apply evs_cons
    | rfl
  · simp
theorem c_are_betweenT (n : Nat) (ns : List Int) (hl : ns.length ≤ LIM) (lo hi : Int) : Cal (callF tab (n + 3)) f_are_between [.tuple (ns.map .int), .int lo, .int hi] (.bool (ns.all fun v => decide (lo ≤ v) && decide (v ≤ hi))) := by
  refine call_ret (n := n + 2) rfl rfl rfl (ss_ret (s_ret (m_keep ?_))) rfl
  have e : (ns.map fun v : Int => PyData.bool (decide (lo ≤ v) && decide (v ≤ hi))) = (ns.map fun v : Int => decide (lo ≤ v) && decide (v ≤ hi)).map .bool := by rw [List.map_map]; rfl
  refine ev_bi (evs_cons (ev_comp0 (h := PyData.int) (ns := ns) (g := fun v : Int => .bool (decide (lo ≤ v) && decide (v ≤ hi))) (ev_var rfl) rfl rfl hl fun v _ => ?_) evs_nil) ?_
  · repeat' first
    | exact ev_var rfl
    | exact as_nil
    | exact c_is_between _ _ _ _
    | apply as_cons
    | apply ev_call rfl rfl
  · rw [e]
    have q := bi_all (ns.map fun v : Int => decide (lo ≤ v) && decide (v ≤ hi))
    rw [List.all_map] at q
    exact q
theorem c_are_numbersT (n : Nat) (ns : List Int) (hl : ns.length ≤ LIM) (many : Int) : Cal (callF tab (n + 3)) f_are_numbers [.tuple (ns.map .int), .int many] (.bool (decide ((ns.length : Int) ≤ many) && ns.all fun v => decide (0 ≤ v))) := by
  refine call_ret (n := n + 2) rfl rfl rfl (ss_ret (s_ret (m_keep ?_))) rfl
  have e : (ns.map fun v : Int => PyData.bool (decide (0 ≤ v))) = (ns.map fun v : Int => decide (0 ≤ v)).map .bool := by rw [List.map_map]; rfl
  apply ev_as
  · apply ev_and (k := decide ((0 : Int) ≤ (ns.map PyData.int).length) && decide (((ns.map PyData.int).length : Int) ≤ many)) (l := ns.all fun v => decide (0 ≤ v))
    · repeat' first
      | exact ev_var rfl
      | exact ev_con
      | exact as_nil
      | exact c_is_sequenceT _ _ (plainAll_ints ns) _ _
      | apply as_cons
      | apply ev_call rfl rfl
    · intro _
      refine ev_bi (evs_cons (ev_comp0 (h := PyData.int) (ns := ns) (g := fun v : Int => .bool (decide (0 ≤ v))) (ev_var rfl) rfl rfl hl fun v _ => ?_) evs_nil) ?_
      · repeat' first
        | exact ev_var rfl
        | exact as_nil
        | exact c_is_natural _ _
        | apply as_cons
        | apply ev_call rfl rfl
      · rw [e]
        have q := bi_all (ns.map fun v : Int => decide (0 ≤ v))
        rw [List.all_map] at q
        exact q
  · simp
theorem c_are_needs (n : Nat) (ns : List Int) (h1 : 1 ≤ ns.length) (h2 : ns.length ≤ 6) : Cal (callF tab (n + 4)) f_are_needs [.tuple (ns.map .int)] (.bool (ns.all fun v => decide (0 ≤ v) && decide (v ≤ 1000))) := by
  refine call_ret (n := n + 3) rfl rfl rfl (ss_ret (s_ret (m_keep ?_))) rfl
  apply ev_as
  · repeat' first
    | exact ev_var rfl
    | exact ev_con
    | exact as_nil
    | exact c_is_sequenceT _ _ (plainAll_ints ns) _ _
    | exact c_are_betweenT _ _ (by unfold LIM; omega) _ _
    | apply as_cons
    | apply ev_call rfl rfl
    | (apply ev_and; rotate_left; intro _)
  · have e1 : decide ((1 : Int) ≤ (ns.length : Nat)) = true := decide_eq_true (by omega)
    have e2 : decide (((ns.length : Nat) : Int) ≤ 6) = true := decide_eq_true (by omega)
    simp [e1, e2]
def gup (ns : List Int) (l : Int) : Int := (ns.map fun v => min v l).sum
theorem c_given_up_to (n : Nat) (ns : List Int) (hl : ns.length ≤ LIM) (l : Int) : Cal (callF tab (n + 1)) f_given_up_to [.tuple (ns.map .int), .int l] (.int (gup ns l)) := by
  refine call_ret (n := n) rfl rfl rfl (ss_ret (s_ret (m_keep ?_))) rfl
  have e : (ns.map fun v : Int => PyData.int (min v l)) = (ns.map fun v : Int => min v l).map .int := by rw [List.map_map]; rfl
  refine ev_bi (evs_cons (ev_comp0 (h := PyData.int) (ns := ns) (g := fun v : Int => .int (min v l)) (ev_var rfl) rfl rfl hl fun v _ => ?_) evs_nil) ?_
  · repeat' first
    | exact ev_var rfl
    | exact evs_nil
    | exact bi_min2 _ _
    | apply evs_cons
    | apply ev_bi
  · rw [e]; exact bi_sum _
def maxL : List Int → Int
  | [] => 0
  | n :: ns => ns.foldl max n
def levC (ns : List Int) (many : Int) (l : Int) : Bool := decide (l < maxL ns) && decide (gup ns (l + 1) ≤ many)
theorem c_full_level (n : Nat) (m : Int) (ms : List Int) (hl : (m :: ms).length ≤ LIM) (many l : Int) (hw : whileN (levC (m :: ms) many) (· + 1) 100000 0 = some l) : Cal (callF tab (n + 2)) f_full_level [.tuple ((m :: ms).map .int), .int many] (.int l) := by
  refine call_ret (n := n + 1) rfl rfl rfl (ss_nx (s_asg (m_keep ev_con)) (ss_nx (r' := [.val (.tuple ((m :: ms).map .int)), .val (.int many), .val (.int l)]) (s_whl ?_) (ss_ret (s_retv rfl)))) rfl
  refine while_run (fun l => [.val (.tuple ((m :: ms).map .int)), .val (.int many), .val (.int l)]) (levC (m :: ms) many) (· + 1) (fun s => ?_) (fun s hs => ?_) 100000 0 l hw
  · refine t_keep ?_ (t_b _)
    repeat' first
    | exact ev_con
    | exact ev_var rfl
    | exact r_lt _ _
    | exact r_le _ _
    | exact as_nil
    | exact evs_nil
    | exact b_add _ _
    | exact bi_max1T _ _
    | exact c_given_up_to _ _ hl _
    | apply evs_cons
    | apply ev_cmp
    | apply ev_bin
    | apply ev_bi
    | (apply ev_and; rotate_left; intro _)
    | apply as_cons
    | apply ev_call rfl rfl
  · refine ss_nx (s_asg (m_keep ?_)) ss_nil
    repeat' first
    | exact ev_con
    | exact ev_var rfl
    | exact b_add _ _
    | apply ev_bin

/-- one need's share -/
def shr1 (l : Int) (s : Int × List Int) (v : Int) : Int × List Int := if decide (l < v) && decide (0 < s.1) then (s.1 - 1, s.2 ++ [l + 1]) else (s.1, s.2 ++ [min v l])
def shr (ns : List Int) (many l : Int) : List Int := (ns.foldl (shr1 l) (many - gup ns l, [])).2
theorem shr1_len (l : Int) (s : Int × List Int) (v : Int) : (shr1 l s v).2.length = s.2.length + 1 := by
  unfold shr1; split <;> simp

abbrev encS (ns : List Int) (sacks many l : Int) (s : (Int × List Int) × Slot) : Env := [.val (.tuple (ns.map .int)), .val (.int sacks), .val (.int many), .val (.int l), .val (.int s.1.1), .own 1 (.list (s.1.2.map .int)), s.2]
theorem shr_fold (l : Int) : ∀ (ns : List Int) (s : Int × List Int) (x : Slot), (ns.foldl (fun (s : (Int × List Int) × Slot) v => (shr1 l s.1 v, .val (.int v))) (s, x)).1 = ns.foldl (shr1 l) s
  | [], _, _ => rfl
  | n :: ns, s, x => shr_fold l ns _ _
theorem c_shared_out (n : Nat) (m : Int) (ms : List Int) (hl : (m :: ms).length ≤ 1000) (sacks l : Int) (hw : whileN (levC (m :: ms) (min sacks (m :: ms).sum)) (· + 1) 100000 0 = some l) :
    Cal (callF tab (n + 3)) f_shared_out [.tuple ((m :: ms).map .int), .int sacks] (.tuple ((shr (m :: ms) (min sacks (m :: ms).sum) l).map .int)) := by
  have hL : (m :: ms).length ≤ LIM := by unfold LIM; omega
  generalize hns : m :: ms = ns at *
  have c1 : Cal (callF tab (n + 2)) f_full_level [.tuple (ns.map .int), .int (min sacks ns.sum)] (.int l) := by subst hns; exact c_full_level n m ms hL _ l hw
  have lp := for_runP (f := fun y rr => match asgG (.nm 6) y rr with
        | none => .bad
        | some r2 => evSs tab (callF tab (n + 2)) [.ife (.keep []) (.and (.cmp .gt (.var 6) (.var 3)) (.cmp .gt (.var 4) (.con (.int 0)))) [
      .app 5 (.keep []) (.bin .add (.var 3) (.con (.int 1))),
      .asg 4 0 (.keep []) (.bin .sub (.var 4) (.con (.int 1)))] [
      .app 5 (.keep []) (.bi .min2 [(.var 6), (.var 3)])]] r2) PyData.int (encS ns sacks (min sacks ns.sum) l) (fun v s => (shr1 l s.1 v, .val (.int v))) (fun j s => s.1.2.length = j ∧ j ≤ ns.length) ns 0 ((min sacks ns.sum - gup ns l, []), .non) ⟨rfl, Nat.zero_le _⟩
      (fun i v s hi hP => by
        have hi' : i < ns.length := (List.getElem?_eq_some_iff.mp hi).1
        refine ⟨.inl ?_, by show (shr1 l s.1 v).2.length = _; rw [shr1_len, hP.1], by omega⟩
        have hlen : (s.1.2.map PyData.int).length < LIM := by rw [List.length_map, hP.1]; unfold LIM; omega
        refine ss_nx (r' := encS ns sacks (min sacks ns.sum) l (shr1 l s.1 v, .val (.int v))) (s_if (k := decide (l < v) && decide (0 < s.1.1)) (r' := encS ns sacks (min sacks ns.sum) l (s.1, .val (.int v))) (t_keep ?_ (t_b _)) (fun hk => ?_) (fun hk => ?_)) ss_nil
        · repeat' first
          | exact ev_con
          | exact ev_var rfl
          | exact r_gt _ _
          | apply ev_cmp
          | (apply ev_and; rotate_left; intro _)
        · have e : shr1 l s.1 v = (s.1.1 - 1, s.1.2 ++ [l + 1]) := if_pos hk
          rw [e]
          have ea : appD (.list (s.1.2.map .int)) (.int (l + 1)) = some (.list ((s.1.2 ++ [l + 1]).map .int)) := by
            simp only [appD, hlen, if_true]
            simp
          refine ss_nx (s_app rfl (m_keep (ev_bin (ev_var rfl) ev_con (b_add _ _))) rfl ea) (ss_nx (s_asg (m_keep (ev_bin (ev_var rfl) ev_con (b_sub _ _)))) ss_nil)
        · have e : shr1 l s.1 v = (s.1.1, s.1.2 ++ [min v l]) := if_neg (by rw [hk]; exact Bool.false_ne_true)
          rw [e]
          have ea : appD (.list (s.1.2.map .int)) (.int (min v l)) = some (.list ((s.1.2 ++ [min v l]).map .int)) := by
            simp only [appD, hlen, if_true]
            simp
          exact ss_nx (s_app rfl (m_keep (ev_bi (evs_cons (ev_var rfl) (evs_cons (ev_var rfl) evs_nil)) (bi_min2 _ _))) rfl ea) ss_nil)
  have e : (ns.foldl (fun (s : (Int × List Int) × Slot) v => (shr1 l s.1 v, .val (.int v))) ((min sacks ns.sum - gup ns l, []), .non)).1.2 = shr ns (min sacks ns.sum) l := by
    rw [shr_fold]; rfl
  refine call_ret (n := n + 2) (kk := 0) (r' := encS ns sacks (min sacks ns.sum) l (ns.foldl (fun (s : (Int × List Int) × Slot) v => (shr1 l s.1 v, .val (.int v))) ((min sacks ns.sum - gup ns l, []), .non))) rfl rfl rfl ?_ rfl
  refine ss_nx (s_asg (m_keep (ev_bi (evs_cons (ev_var rfl) (evs_cons (ev_bi (evs_cons (ev_var rfl) evs_nil) (bi_sumT _)) evs_nil)) (bi_min2 _ _)))) ?_
  refine ss_nx (s_asg (m_keep (ev_call rfl rfl (as_cons (ev_var rfl) (as_cons (ev_var rfl) as_nil)) c1))) ?_
  refine ss_nx (s_asg (m_keep (ev_bin (ev_var rfl) (ev_call rfl rfl (as_cons (ev_var rfl) (as_cons (ev_var rfl) as_nil)) (c_given_up_to _ _ hL _)) (b_sub _ _)))) ?_
  refine ss_nx (s_asg (m_keep (ev_lst evs_nil (by decide)))) ?_
  refine ss_nx (s_for (i_keep (ev_var rfl) rfl) lp.1) ?_
  refine ss_ret (s_ret (m_look (ev_as (ev_bi (evs_cons (ev_var rfl) evs_nil) (bi_tup _)) ?_) ?_))
  · rw [e]
  · have : imm (.tuple ((shr ns (min sacks ns.sum) l).map .int)) = true := by
      show imm.immAll _ = true
      induction shr ns (min sacks ns.sum) l with
      | nil => rfl
      | cons v vs ih => simp [imm.immAll, imm, ih]
    rw [this]; rfl
theorem all_01000 {ns : List Int} (h : ∀ v ∈ ns, 0 ≤ v ∧ v ≤ 1000) : (ns.all fun v => decide (0 ≤ v) && decide (v ≤ 1000)) = true := by
  rw [List.all_eq_true]
  intro v hv
  have := h v hv
  simp [this]
theorem c_rations (n : Nat) (m : Int) (ms : List Int) (hl : (m :: ms).length ≤ 6) (hv : ∀ v ∈ m :: ms, 0 ≤ v ∧ v ≤ 1000) (sacks l : Int) (h0 : 0 ≤ sacks) (h1 : sacks ≤ 6000) (hw : whileN (levC (m :: ms) (min sacks (m :: ms).sum)) (· + 1) 100000 0 = some l) :
    Cal (callF tab (n + 5)) f_rations [.tuple ((m :: ms).map .int), .int sacks] (.tuple ((shr (m :: ms) (min sacks (m :: ms).sum) l).map .int)) := by
  have cn := c_are_needs n (m :: ms) (by simp) hl
  rw [all_01000 hv] at cn
  have cb := c_is_between (n + 2) sacks 0 6000
  rw [show (decide (0 ≤ sacks) && decide (sacks ≤ 6000)) = true by simp [h0, h1]] at cb
  have cs := c_shared_out (n + 1) m ms (by omega) sacks l hw
  refine call_ret (n := n + 4) (kk := 0) (r' := [.val (.tuple ((m :: ms).map .int)), .val (.int sacks)]) rfl rfl rfl ?_ rfl
  refine ss_nx (s_exp (m_keep (ev_call rfl rfl (as_cons (ev_call rfl rfl (as_cons (ev_var rfl) as_nil) cn) (as_cons ev_con as_nil)) (c_require _ _)))) ?_
  refine ss_nx (s_exp (m_keep (ev_call rfl rfl (as_cons (ev_call rfl rfl (as_cons (ev_var rfl) (as_cons ev_con (as_cons ev_con as_nil))) cb) (as_cons ev_con as_nil)) (c_require _ _)))) ?_
  exact ss_ret (s_ret (m_keep (ev_call rfl rfl (as_cons (ev_var rfl) (as_cons (ev_var rfl) as_nil)) cs)))
theorem idx_int {vs : List Int} {k : Nat} {v : Int} (h : vs[k]? = some v) : IdxR (.tuple (vs.map .int)) (.int (k : Nat)) (.int v) := ⟨by
  show L2.atI (vs.map PyData.int) (k : Nat) = _
  exact atI_nat (by rw [List.getElem?_map, h]; rfl)⟩
/-- the short ones -/
def shortL (told ns : List Int) : List Int := ((List.range ns.length).filter fun k => decide (told.getD k 0 < ns.getD k 0)).map fun k => told.getD k 0
theorem getD_get {vs : List Int} {k : Nat} (h : k < vs.length) : vs[k]? = some (vs.getD k 0) := by
  rw [List.getElem?_eq_getElem h, List.getD_eq_getElem?_getD, List.getElem?_eq_getElem h]; rfl
theorem c_level_of (n : Nat) (m : Int) (ms : List Int) (hl : (m :: ms).length ≤ 6) (hv : ∀ v ∈ m :: ms, 0 ≤ v ∧ v ≤ 1000) (sacks l : Int) (h0 : 0 ≤ sacks) (h1 : sacks ≤ 6000) (hw : whileN (levC (m :: ms) (min sacks (m :: ms).sum)) (· + 1) 100000 0 = some l)
    (told : List Int) (ht : told = shr (m :: ms) (min sacks (m :: ms).sum) l) (htl : told.length = (m :: ms).length) :
    Cal (callF tab (n + 5)) f_level_of [.tuple ((m :: ms).map .int), .int sacks] (match shortL told (m :: ms) with
      | [] => .none
      | v :: vs => .int (vs.foldl min v)) := by
  have cn := c_are_needs n (m :: ms) (by simp) hl
  rw [all_01000 hv] at cn
  have cb := c_is_between (n + 2) sacks 0 6000
  rw [show (decide (0 ≤ sacks) && decide (sacks ≤ 6000)) = true by simp [h0, h1]] at cb
  have cs := c_shared_out (n + 1) m ms (by omega) sacks l hw
  rw [← ht] at cs
  generalize hns : m :: ms = ns at *
  have hcomp : EvE tab (callF tab (n + 4)) (prtA [.val (.tuple (ns.map .int)), .val (.int sacks), .val (.tuple (told.map .int)), .non, .non]) (.comp (.idx (.var 2) (.var 4)) (.nm 4) (.rng (.con (.int 0)) (.bi .len [(.var 0)])) (some (.cmp .lt (.idx (.var 2) (.var 4)) (.idx (.var 0) (.var 4))))) (.list ((shortL told ns).map .int)) := by
    have e : (shortL told ns).map PyData.int = ((List.range ns.length).filter fun k => decide (told.getD k 0 < ns.getD k 0)).map fun k => PyData.int (told.getD k 0) := by
      unfold shortL; rw [List.map_map]; rfl
    rw [e]
    have hr : rngD (.int 0) (.int ((ns.map PyData.int).length : Nat)) = some (.list ((List.range ns.length).map fun k => .int ((k : Nat) : Int))) := by
      rw [rng_eq' (by decide) (by decide) (by omega) (by rw [List.length_map]; omega)]
      simp
    refine ev_comp (h := fun k : Nat => .int (k : Nat)) (ns := List.range ns.length) (ev_rng ev_con (ev_bi (evs_cons (ev_var rfl) evs_nil) (bi_lenT _)) hr) rfl rfl (by simp [LIM]; omega) (fun k hk => ?_) (fun k hk _ => ?_)
    · have hk' := List.mem_range.mp hk
      exact c_some (ev_cmp (ev_idx (ev_var rfl) (ev_var rfl) (idx_int (getD_get (by omega)))) (ev_idx (ev_var rfl) (ev_var rfl) (idx_int (getD_get hk'))) (r_lt _ _)) (t_b _)
    · have hk' := List.mem_range.mp hk
      exact ev_idx (ev_var rfl) (ev_var rfl) (idx_int (getD_get (by omega)))
  refine call_ret (n := n + 4) (kk := 0) (r' := [.val (.tuple (ns.map .int)), .val (.int sacks), .val (.tuple (told.map .int)), .val (.list ((shortL told ns).map .int)), .non]) rfl rfl rfl ?_ rfl
  refine ss_nx (s_exp (m_keep (ev_call rfl rfl (as_cons (ev_call rfl rfl (as_cons (ev_var rfl) as_nil) cn) (as_cons ev_con as_nil)) (c_require _ _)))) ?_
  refine ss_nx (s_exp (m_keep (ev_call rfl rfl (as_cons (ev_call rfl rfl (as_cons (ev_var rfl) (as_cons ev_con (as_cons ev_con as_nil))) cb) (as_cons ev_con as_nil)) (c_require _ _)))) ?_
  refine ss_nx (s_asg (m_keep (ev_call rfl rfl (as_cons (ev_var rfl) (as_cons (ev_var rfl) as_nil)) cs))) ?_
  refine ss_nx (s_asg (m_keep hcomp)) ?_
  generalize shortL told ns = sh
  cases sh with
  | nil => exact ss_ret (s_if (k := true) (t_keep (ev_not (ev_var rfl) (t_l _)) (t_b _)) (fun _ => ss_ret (s_ret (m_keep ev_con))) fun h => by cases h)
  | cons v vs => exact ss_nx (s_if (k := false) (t_keep (ev_not (ev_var rfl) (t_l _)) (t_b _)) (fun h => by cases h) fun _ => ss_nil) (ss_ret (s_ret (m_keep (ev_bi (evs_cons (ev_var rfl) evs_nil) (bi_min1 _ _)))))
end Cw
end

section
namespace Cw
open PySem
theorem foldl_filter {α β : Type} (p : α → Bool) (g : α → β) : ∀ (ns : List α) (acc : List β), ns.foldl (fun acc n => if p n then acc ++ [g n] else acc) acc = acc ++ (ns.filter p).map g
  | [], acc => by simp
  | n :: ns, acc => by
    simp only [List.foldl_cons]
    rw [foldl_filter p g ns]
    cases hp : p n <;> simp [List.filter_cons, hp]
theorem foldl_flat {α β : Type} (g : α → List β) : ∀ (ns : List α) (acc : List β), ns.foldl (fun acc n => acc ++ g n) acc = acc ++ ns.flatMap g
  | [], acc => by simp
  | n :: ns, acc => by
    simp only [List.foldl_cons, List.flatMap_cons]
    rw [foldl_flat g ns, List.append_assoc]
def pairD (i j : Nat) : D := .tuple [.int i, .int j]
def envC (ns gs : List Int) (i j : Nat) : Bool := decide (gs.getD i 0 < ns.getD i 0) && decide (gs.getD i 0 + 2 ≤ gs.getD j 0)
def envRow (ns gs : List Int) (i : Nat) : List D := ((List.range ns.length).filter (envC ns gs i)).map (pairD i)
def envAll (ns gs : List Int) : List D := (List.range ns.length).flatMap (envRow ns gs)
theorem envRow_len (ns gs : List Int) (i : Nat) : (envRow ns gs i).length ≤ ns.length := by
  unfold envRow
  rw [List.length_map]
  exact Nat.le_trans (List.length_filter_le _ _) (by simp)
abbrev encE (ns gs : List Int) (s : List D × Slot × Slot) : Env := [.val (.tuple (ns.map .int)), .val (.tuple (gs.map .int)), .own 1 (.list s.1), s.2.1, s.2.2]
theorem rng_len (xs : List D) (h : xs.length ≤ 1000) : rngD (.int 0) (.int (xs.length : Nat)) = some (.list ((List.range xs.length).map fun k => .int ((k : Nat) : Int))) := by
  rw [rng_eq' (by decide) (by decide) (by omega) (by omega)]
  simp
theorem imm_append : ∀ (xs ys : List D), imm.immAll xs = true → imm.immAll ys = true → imm.immAll (xs ++ ys) = true
  | [], _, _, h => h
  | x :: xs, ys, h, g => by
    simp only [imm.immAll, Bool.and_eq_true] at h
    simp [imm.immAll, h.1, imm_append xs ys h.2 g]
theorem imm_row (ns gs : List Int) (i : Nat) : imm.immAll (envRow ns gs i) = true := by
  unfold envRow
  generalize (List.range ns.length).filter (envC ns gs i) = js
  induction js with
  | nil => rfl
  | cons j js ih => simp [imm.immAll, imm, pairD, ih]
theorem imm_all (ns gs : List Int) : imm.immAll (envAll ns gs) = true := by
  unfold envAll
  generalize List.range ns.length = is
  induction is with
  | nil => rfl
  | cons i is ih => rw [List.flatMap_cons]; exact imm_append _ _ (imm_row ns gs i) ih
theorem c_envies (n : Nat) (ns gs : List Int) (h1 : 1 ≤ ns.length) (h2 : ns.length ≤ 6) (hv : ∀ v ∈ ns, 0 ≤ v ∧ v ≤ 1000) (hg : ∀ v ∈ gs, 0 ≤ v) (hgl : gs.length = ns.length) :
    Cal (callF tab (n + 5)) f_envies [.tuple (ns.map .int), .tuple (gs.map .int)] (.tuple (envAll ns gs)) := by
  have cn := c_are_needs n ns h1 h2
  rw [all_01000 hv] at cn
  have cm := c_are_numbersT (n + 1) gs (by unfold LIM; omega) 5000
  have e0 : (gs.all fun v => decide (0 ≤ v)) = true := by
    rw [List.all_eq_true]
    intro v hv
    simp [hg v hv]
  rw [e0, show decide ((gs.length : Int) ≤ 5000) = true from decide_eq_true (by omega)] at cm
  have hln : (ns.map PyData.int).length ≤ 1000 := by rw [List.length_map]; omega
  -- the inner loop
  have inner : ∀ (i : Nat), i < ns.length → ∀ (acc : List D) (s4 : Slot), acc.length + ns.length ≤ 1000 → loopF (fun y rr => match asgG (.nm 4) y rr with
        | none => .bad
        | some r2 => evSs tab (callF tab (n + 4)) [.ife (.keep []) (.and (.cmp .lt (.idx (.var 1) (.var 3)) (.idx (.var 0) (.var 3))) (.cmp .le (.bin .add (.idx (.var 1) (.var 3)) (.con (.int 2))) (.idx (.var 1) (.var 4)))) [
        .app 2 (.keep []) (.tup [(.var 3), (.var 4)])] []] r2) ((List.range ns.length).map fun k => .int ((k : Nat) : Int)) (encE ns gs (acc, .val (.int (i : Nat)), s4)) =
      .ok .nx (encE ns gs (acc ++ envRow ns gs i, .val (.int (i : Nat)), ((List.range ns.length).foldl (fun (s : List D × Slot) (j : Nat) => (if envC ns gs i j then s.1 ++ [pairD i j] else s.1, Slot.val (.int (j : Nat)))) (acc, s4)).2)) := by
    intro i hi acc s4 hacc
    have q := for_runP (f := fun y rr => match asgG (.nm 4) y rr with
        | none => .bad
        | some r2 => evSs tab (callF tab (n + 4)) [.ife (.keep []) (.and (.cmp .lt (.idx (.var 1) (.var 3)) (.idx (.var 0) (.var 3))) (.cmp .le (.bin .add (.idx (.var 1) (.var 3)) (.con (.int 2))) (.idx (.var 1) (.var 4)))) [
        .app 2 (.keep []) (.tup [(.var 3), (.var 4)])] []] r2) (fun k : Nat => PyData.int (k : Nat)) (fun s : List D × Slot => encE ns gs (s.1, .val (.int (i : Nat)), s.2)) (fun j s => (if envC ns gs i j then s.1 ++ [pairD i j] else s.1, .val (.int (j : Nat)))) (fun j s => s.1.length ≤ acc.length + j ∧ j ≤ ns.length) (List.range ns.length) 0 (acc, s4) ⟨by simp, Nat.zero_le _⟩
      (fun j0 j s hj hP => by
        have hj' : j < ns.length := List.mem_range.mp (List.mem_of_getElem? hj)
        have hj0 : j0 < ns.length := by
          have := (List.getElem?_eq_some_iff.mp hj).1
          simpa using this
        refine ⟨.inl ?_, ?_, by omega⟩
        · refine ss_nx (r' := encE ns gs ((if envC ns gs i j then s.1 ++ [pairD i j] else s.1), .val (.int (i : Nat)), .val (.int (j : Nat)))) (s_if (k := envC ns gs i j) (r' := encE ns gs (s.1, .val (.int (i : Nat)), .val (.int (j : Nat)))) (t_keep ?_ (t_b _)) (fun hk => ?_) (fun hk => ?_)) ss_nil
          · exact ev_and (ev_cmp (ev_idx (ev_var rfl) (ev_var rfl) (idx_int (getD_get (by omega)))) (ev_idx (ev_var rfl) (ev_var rfl) (idx_int (getD_get hi))) (r_lt _ _)) fun _ =>
              ev_cmp (ev_bin (ev_idx (ev_var rfl) (ev_var rfl) (idx_int (getD_get (by omega)))) ev_con (b_add _ _)) (ev_idx (ev_var rfl) (ev_var rfl) (idx_int (getD_get (by omega)))) (r_le _ _)
          · rw [if_pos hk]
            have ea : appD (.list s.1) (pairD i j) = some (.list (s.1 ++ [pairD i j])) := by
              simp only [appD]
              rw [if_pos (by unfold LIM; omega)]
            exact ss_nx (s_app rfl (m_keep (ev_tup (evs_cons (ev_var rfl) (evs_cons (ev_var rfl) evs_nil)) (by show 2 ≤ LIM; decide))) rfl ea) ss_nil
          · rw [if_neg (by rw [hk]; exact Bool.false_ne_true)]
            exact ss_nil
        · show (if envC ns gs i j then s.1 ++ [pairD i j] else s.1).length ≤ _
          split
          · rw [List.length_append]; simp; omega
          · omega)
    have e1 : ∀ (js : List Nat) (s : List D × Slot), (js.foldl (fun (s : List D × Slot) (j : Nat) => (if envC ns gs i j then s.1 ++ [pairD i j] else s.1, Slot.val (.int (j : Nat)))) s).1 = s.1 ++ (js.filter (envC ns gs i)).map (pairD i) := by
      intro js
      induction js with
      | nil => intro s; simp
      | cons j js ih =>
        intro s
        rw [List.foldl_cons, ih]
        cases hp : envC ns gs i j <;> simp [List.filter_cons, hp]
    have q1 := q.1
    rw [e1 (List.range ns.length) (acc, s4)] at q1
    exact q1
  have outer := for_runP (f := fun y rr => match asgG (.nm 3) y rr with
        | none => .bad
        | some r2 => evSs tab (callF tab (n + 4)) [.for (.nm 4) (.keep []) (.rng (.con (.int 0)) (.bi .len [(.var 0)])) [
      .ife (.keep []) (.and (.cmp .lt (.idx (.var 1) (.var 3)) (.idx (.var 0) (.var 3))) (.cmp .le (.bin .add (.idx (.var 1) (.var 3)) (.con (.int 2))) (.idx (.var 1) (.var 4)))) [
        .app 2 (.keep []) (.tup [(.var 3), (.var 4)])] []]] r2) (fun k : Nat => PyData.int (k : Nat)) (fun s : List D × Slot × Slot => encE ns gs s)
      (fun i s => (s.1 ++ envRow ns gs i, .val (.int (i : Nat)), ((List.range ns.length).foldl (fun (s : List D × Slot) (j : Nat) => (if envC ns gs i j then s.1 ++ [pairD i j] else s.1, Slot.val (.int (j : Nat)))) (s.1, s.2.2)).2))
      (fun i s => s.1.length ≤ i * ns.length ∧ i ≤ ns.length) (List.range ns.length) 0 ([], .non, .non) ⟨by simp, Nat.zero_le _⟩
      (fun i0 i s hi hP => by
        have hi' : i < ns.length := List.mem_range.mp (List.mem_of_getElem? hi)
        have hi0 : i0 < ns.length := by
          have := (List.getElem?_eq_some_iff.mp hi).1
          simpa using this
        have hb : s.1.length ≤ 36 := Nat.le_trans hP.1 (by
          have : (0 + i0) * ns.length ≤ 6 * 6 := Nat.mul_le_mul (by omega) h2
          omega)
        refine ⟨.inl ?_, ?_, by omega⟩
        · refine ss_nx (s_for (i_keep (ev_rng ev_con (ev_bi (evs_cons (ev_var rfl) evs_nil) (bi_lenT _)) (rng_len _ hln)) rfl) ?_) ss_nil
          rw [List.length_map]
          exact inner i hi' s.1 s.2.2 (by omega)
        · show (s.1 ++ envRow ns gs i).length ≤ _
          rw [List.length_append]
          have := envRow_len ns gs i
          have := hP.1
          rw [show (0 + i0 + 1) * ns.length = (0 + i0) * ns.length + ns.length by rw [Nat.add_mul, Nat.one_mul]]
          omega)
  have e2 : ∀ (is : List Nat) (s : List D × Slot × Slot), (is.foldl (fun (s : List D × Slot × Slot) (i : Nat) => (s.1 ++ envRow ns gs i, Slot.val (.int (i : Nat)), ((List.range ns.length).foldl (fun (s : List D × Slot) (j : Nat) => (if envC ns gs i j then s.1 ++ [pairD i j] else s.1, Slot.val (.int (j : Nat)))) (s.1, s.2.2)).2)) s).1 = s.1 ++ is.flatMap (envRow ns gs) := by
    intro is
    induction is with
    | nil => intro s; simp
    | cons i is ih => intro s; rw [List.foldl_cons, ih]; simp
  have e3 := e2 (List.range ns.length) ([], .non, .non)
  have lenEq : CmpR .eq (.int ((gs.map PyData.int).length : Nat)) (.int ((ns.map PyData.int).length : Nat)) true := ⟨by
    rw [cmp_eq, List.length_map, List.length_map, hgl]; simp⟩
  have fin := outer.1
  generalize (List.range ns.length).foldl (fun (s : List D × Slot × Slot) (i : Nat) => (s.1 ++ envRow ns gs i, Slot.val (.int (i : Nat)), ((List.range ns.length).foldl (fun (s : List D × Slot) (j : Nat) => (if envC ns gs i j then s.1 ++ [pairD i j] else s.1, Slot.val (.int (j : Nat)))) (s.1, s.2.2)).2)) ([], .non, .non) = st at fin e3
  refine call_ret (n := n + 4) (kk := 0) (r' := encE ns gs st) rfl rfl rfl ?_ rfl
  refine ss_nx (s_exp (m_keep (ev_call rfl rfl (as_cons (ev_call rfl rfl (as_cons (ev_var rfl) as_nil) cn) (as_cons ev_con as_nil)) (c_require _ _)))) ?_
  refine ss_nx (s_exp (m_keep (ev_call rfl rfl (as_cons (ev_call rfl rfl (as_cons (ev_var rfl) (as_cons ev_con as_nil)) cm) (as_cons ev_con as_nil)) (c_require _ _)))) ?_
  refine ss_nx (s_exp (m_keep (ev_call rfl rfl (as_cons (ev_cmp (ev_bi (evs_cons (ev_var rfl) evs_nil) (bi_lenT _)) (ev_bi (evs_cons (ev_var rfl) evs_nil) (bi_lenT _)) lenEq) (as_cons ev_con as_nil)) (c_require _ _)))) ?_
  refine ss_nx (s_asg (m_keep (ev_lst evs_nil (by decide)))) ?_
  refine ss_nx (s_for (i_keep (ev_rng ev_con (ev_bi (evs_cons (ev_var rfl) evs_nil) (bi_lenT _)) (rng_len _ hln)) rfl) (by rw [List.length_map]; exact fin)) ?_
  refine ss_ret (s_ret (m_look (ev_as (ev_bi (evs_cons (ev_var rfl) evs_nil) (bi_tup _)) ?_) ?_))
  · rw [e3]; rfl
  · have : imm (.tuple (envAll ns gs)) = true := imm_all ns gs
    rw [this]; rfl
end Cw
end

section
namespace Cw
open PySem
/-- what _law_draw tells -/
def drw (row : List Int) (k : Nat) (l : Int) : Int := if k < row.length then row.getD k 0 % l else
  ((((row.getD (k % row.length) 0 * 40692 + (k : Int) * 7919 + 3) % 2147483399) * 48271 + k) % 2147483647) % l
theorem idxL_int {vs : List Int} {k : Nat} {v : Int} (h : vs[k]? = some v) : IdxR (.list (vs.map .int)) (.int (k : Nat)) (.int v) := ⟨by
  show L2.atI (vs.map PyData.int) (k : Nat) = _
  exact atI_nat (by rw [List.getElem?_map, h]; rfl)⟩
theorem c_draw (n : Nat) (row : List Int) (h0 : 0 < row.length) (k : Nat) (l : Int) (hl : 0 < l) : Cal (callF tab (n + 1)) f__law_draw [.list (row.map .int), .int (k : Nat), .int l] (.int (drw row k l)) := by
  have hlen : (row.map PyData.int).length = row.length := List.length_map ..
  by_cases hk : k < row.length
  · have e : drw row k l = row.getD k 0 % l := if_pos hk
    rw [e]
    refine call_ret (n := n) (kk := 0) (r' := [.val (.list (row.map .int)), .val (.int (k : Nat)), .val (.int l), .non]) rfl rfl rfl ?_ rfl
    refine ss_ret (s_if (k := true) (t_keep (ev_as (ev_cmp (ev_var rfl) (ev_bi (evs_cons (ev_var rfl) evs_nil) (bi_len _)) (r_lt _ _)) ?_) (t_b _)) (fun _ => ?_) fun h => by cases h)
    · rw [hlen]; simp [hk]
    · exact ss_ret (s_ret (m_keep (ev_bin (ev_bi (evs_cons (ev_idx (ev_var rfl) (ev_var rfl) (idxL_int (getD_get hk))) evs_nil) (bi_int _)) (ev_var rfl) (b_mod _ _ hl))))
  · have e : drw row k l = _ := if_neg hk
    rw [e]
    have hm : k % row.length < row.length := Nat.mod_lt _ h0
    have em : ((k : Int) % (row.length : Nat)) = ((k % row.length : Nat) : Int) := by simp
    refine call_ret (n := n) (kk := 0) (r' := [.val (.list (row.map .int)), .val (.int (k : Nat)), .val (.int l), .val (.int ((row.getD (k % row.length) 0 * 40692 + (k : Int) * 7919 + 3) % 2147483399))]) rfl rfl rfl ?_ rfl
    refine ss_nx (s_if (k := false) (t_keep (ev_as (ev_cmp (ev_var rfl) (ev_bi (evs_cons (ev_var rfl) evs_nil) (bi_len _)) (r_lt _ _)) ?_) (t_b _)) (fun h => by cases h) fun _ => ss_nil) ?_
    · rw [hlen]; simp; omega
    refine ss_nx (s_asg (m_keep (ev_bin (ev_bi (evs_cons (ev_bin (ev_bin (ev_bin (ev_idx (ev_var rfl) (ev_as (ev_bin (ev_bi (evs_cons (ev_var rfl) evs_nil) (bi_int _)) (ev_bi (evs_cons (ev_var rfl) evs_nil) (bi_len _)) (b_mod _ _ (by rw [hlen]; omega))) ?_) (idxL_int (getD_get hm))) ev_con (b_mul _ _ (mul_ok_r (by decide) (by decide)))) (ev_bin (ev_var rfl) ev_con (b_mul _ _ (mul_ok_r (by decide) (by decide)))) (b_add _ _)) ev_con (b_add _ _)) evs_nil) (bi_int _)) ev_con (b_mod _ _ (by decide))))) ?_
    · rw [hlen, em]
    exact ss_ret (s_ret (m_keep (ev_bin (ev_bi (evs_cons (ev_bin (ev_bi (evs_cons (ev_bin (ev_bin (ev_var rfl) ev_con (b_mul _ _ (mul_ok_r (by decide) (by decide)))) (ev_var rfl) (b_add _ _)) evs_nil) (bi_int _)) ev_con (b_mod _ _ (by decide))) evs_nil) (bi_int _)) (ev_var rfl) (b_mod _ _ hl))))
theorem c_take (n : Nat) (row : List Int) (h0 : 0 < row.length) (k : Nat) (l : Int) (hl : 0 < l) : callF tab (n + 2) f__law_take [.list (row.map .int), .list [.int (k : Nat)], .int l] = .ok (.int (drw row k l)) [.list [.int ((k + 1 : Nat) : Int)]] := by
  have ek : ((k : Int) + 1 - 1) = (k : Nat) := by omega
  have e1 : ((k + 1 : Nat) : Int) = (k : Int) + 1 := by omega
  rw [e1]
  refine call_retIo (n := n + 1) (kk := 0) (r' := [.val (.list (row.map .int)), .mut (.list [.int ((k : Int) + 1)]), .val (.int l)]) rfl rfl ?_ rfl rfl
  refine ss_nx (s_set (m_keep (ev_bin (ev_sidx rfl ev_con ⟨rfl⟩) ev_con (b_add _ _))) rfl ev_con rfl) ?_
  have cd := c_draw n row h0 k l hl
  exact ss_ret (s_ret (m_keep (ev_call rfl rfl (as_cons (ev_var rfl) (as_cons (ev_as (ev_bin (ev_sidx rfl ev_con ⟨rfl⟩) ev_con (b_sub _ _)) (by rw [ek])) (as_cons (ev_var rfl) as_nil))) cd)))
theorem drw_range (row : List Int) (k : Nat) {l : Int} (hl : 0 < l) : 0 ≤ drw row k l ∧ drw row k l < l := by
  unfold drw
  split
  · exact ⟨Int.emod_nonneg _ (by omega), Int.emod_lt_of_pos _ hl⟩
  · exact ⟨Int.emod_nonneg _ (by omega), Int.emod_lt_of_pos _ hl⟩
end Cw
end

section
namespace Cw
open PySem
theorem app_int {row : List Int} {v : Int} (h : row.length < LIM) : appD (.list (row.map .int)) (.int v) = some (.list ((row ++ [v]).map .int)) := by
  have h' : (row.map PyData.int).length < LIM := by rw [List.length_map]; exact h
  simp only [appD, h', if_true]
  simp
theorem cut_all (ns : List Int) (hl : ns.length ≤ 63) : slcD (.list (ns.map .int)) none (some 63) = some (.list (ns.map .int)) := by
  have e2 : HT.sIx (ns.map PyData.int).length (ns.map PyData.int).length (some 63) = ns.length := by
    have := HT.sIx_nat (ns.map PyData.int).length (ns.map PyData.int).length 63
    rw [show ((63 : Nat) : Int) = 63 from rfl] at this
    rw [this, List.length_map]
    omega
  simp only [slcD, cutL, e2, HT.sIx_none, List.drop_zero, Nat.sub_zero]
  rw [List.take_of_length_le (by simp)]
theorem ev_slc0 {T : Nat → Option Fn} {c : Nat → List D → OutC} {r : Env} {a : ME} {x d : D} {i : Int} (ha : EvE T c r a x) (h : slcD x none (some i) = some d) : EvE T c r (.slc a none (some (.con (.int i)))) d := ⟨by
  simp only [evE, ha.h, b_ok, evO, h, lift_some]⟩
theorem b_pow10 : BinR .pow (.int 10) (.int 18) (.int 1000000000000000000) := ⟨by
  simp only [binD]
  rw [if_pos (by decide)]
  rfl⟩
abbrev encN (sc : D) (row : List Int) (s2 s3 s4 s5 : Slot) : Env := [.val sc, .own 1 (.list (row.map .int)), s2, s3, s4, s5]
theorem c_numbers (n : Nat) (ns : List Int) (hl : ns.length ≤ 63) : ∃ row : List Int, 0 < row.length ∧ row.length ≤ 3781 ∧ Cal (callF tab (n + 1)) f__law_numbers [.list (ns.map .int)] (.list (row.map .int)) := by
  generalize hsc : PyData.list (ns.map PyData.int) = sc
  -- the two inner loops
  have in60 : ∀ (row : List Int) (x v : Int) (s4 s5 : Slot), row.length ≤ 10000 → ∃ r', loopF (fun y rr => match asgG (.nm 4) y rr with
        | none => .bad
        | some r2 => evSs tab (callF tab n) [.ife (.keep []) (.cmp .eq (.var 3) (.con (.int 0))) [.brk] [],
        .app 1 (.keep []) (.bin .mod (.bi .int [(.var 3)]) (.con (.int 997))),
        .asg 3 0 (.keep []) (.bin .fdiv (.var 3) (.con (.int 997)))] r2) ((List.range 60).map fun k => .int ((k : Nat) : Int)) (encN sc row (.val (.int x)) (.val (.int v)) s4 s5) = .ok .nx r' ∧
      ∃ (row' : List Int) (s3 s4 s5 : Slot), r' = encN sc row' (.val (.int x)) s3 s4 s5 ∧ row.length ≤ row'.length ∧ row'.length ≤ row.length + 60 := by
    intro row x v s4 s5 hr
    obtain ⟨r', e, h⟩ := loop_brk (f := fun y rr => match asgG (.nm 4) y rr with
        | none => .bad
        | some r2 => evSs tab (callF tab n) [.ife (.keep []) (.cmp .eq (.var 3) (.con (.int 0))) [.brk] [],
        .app 1 (.keep []) (.bin .mod (.bi .int [(.var 3)]) (.con (.int 997))),
        .asg 3 0 (.keep []) (.bin .fdiv (.var 3) (.con (.int 997)))] r2)
      (fun j r => j ≤ 60 ∧ ∃ (row' : List Int) (v : Int) (s4 s5 : Slot), r = encN sc row' (.val (.int x)) (.val (.int v)) s4 s5 ∧ row.length ≤ row'.length ∧ row'.length ≤ row.length + j)
      (fun r => ∃ (row' : List Int) (s3 s4 s5 : Slot), r = encN sc row' (.val (.int x)) s3 s4 s5 ∧ row.length ≤ row'.length ∧ row'.length ≤ row.length + 60)
      ((List.range 60).map fun k => .int ((k : Nat) : Int)) 0 _ ⟨Nat.zero_le _, row, v, s4, s5, rfl, Nat.le_refl _, Nat.le_refl _⟩ (fun i y r hi ⟨hj, row', v, s4, s5, hr', h1, h2⟩ => by
        subst hr'
        have hi' : i < 60 := by
          have := (List.getElem?_eq_some_iff.mp hi).1
          simpa using this
        obtain ⟨k, rfl⟩ : ∃ k : Int, y = .int k := by
          rw [List.getElem?_map] at hi
          obtain ⟨k, _, rfl⟩ := Option.map_eq_some_iff.mp hi
          exact ⟨_, rfl⟩
        by_cases hv : v = 0
        · refine ⟨encN sc row' (.val (.int x)) (.val (.int v)) (.val (.int k)) s5, .inr ⟨?_, row', _, _, _, rfl, h1, by omega⟩⟩
          exact ss_brk (s_if (k := true) (t_keep (ev_as (ev_cmp (ev_var rfl) ev_con (r_eq _ _)) (by simp [hv])) (t_b _)) (fun _ => ss_brk rfl) fun h => by cases h)
        · refine ⟨encN sc (row' ++ [v % 997]) (.val (.int x)) (.val (.int (v / 997))) (.val (.int k)) s5, .inl ⟨?_, by omega, _, _, _, _, rfl, by simp; omega, by simp; omega⟩⟩
          refine ss_nx (r' := encN sc row' (.val (.int x)) (.val (.int v)) (.val (.int k)) s5) (s_if (k := false) (t_keep (ev_as (ev_cmp (ev_var rfl) ev_con (r_eq _ _)) (by simp [hv])) (t_b _)) (fun h => by cases h) fun _ => ss_nil) ?_
          refine ss_nx (s_app rfl (m_keep (ev_bin (ev_bi (evs_cons (ev_var rfl) evs_nil) (bi_int _)) ev_con (b_mod _ _ (by decide)))) rfl (app_int (by unfold LIM; omega))) ?_
          exact ss_nx (s_asg (m_keep (ev_bin (ev_var rfl) ev_con (b_fdiv _ _ (by decide +kernel))))) ss_nil)
    refine ⟨r', e, ?_⟩
    rcases h with ⟨_, row', v, s4, s5, h1, h2, h3⟩ | h
    · simp only [List.length_map, List.length_range, Nat.zero_add] at h3
      exact ⟨row', _, s4, s5, h1, h2, h3⟩
    · exact h
  have in4 : ∀ (row : List Int) (x : Int) (s3 s4 s5 : Slot), row.length ≤ 10000 → ∃ r', loopF (fun y rr => match asgG (.nm 4) y rr with
        | none => .bad
        | some r2 => evSs tab (callF tab n) [.asg 5 0 (.keep []) (.bin .mod (.bi .int [(.bin .add (.bin .add (.bin .mul (.var 2) (.con (.int 48271))) (.bin .mul (.var 4) (.con (.int 69621)))) (.con (.int 11)))]) (.con (.int 2147483647))),
        .app 1 (.keep []) (.bin .mod (.bi .int [(.bin .add (.bin .mul (.var 5) (.con (.int 16807))) (.var 4))]) (.con (.int 2147483629)))] r2) ((List.range 4).map fun k => .int ((k : Nat) : Int)) (encN sc row (.val (.int x)) s3 s4 s5) = .ok .nx r' ∧
      ∃ (row' : List Int) (s4 s5 : Slot), r' = encN sc row' (.val (.int x)) s3 s4 s5 ∧ row'.length = row.length + 4 := by
    intro row x s3 s4 s5 hr
    obtain ⟨r', e, h⟩ := loop_inv (f := fun y rr => match asgG (.nm 4) y rr with
        | none => .bad
        | some r2 => evSs tab (callF tab n) [.asg 5 0 (.keep []) (.bin .mod (.bi .int [(.bin .add (.bin .add (.bin .mul (.var 2) (.con (.int 48271))) (.bin .mul (.var 4) (.con (.int 69621)))) (.con (.int 11)))]) (.con (.int 2147483647))),
        .app 1 (.keep []) (.bin .mod (.bi .int [(.bin .add (.bin .mul (.var 5) (.con (.int 16807))) (.var 4))]) (.con (.int 2147483629)))] r2)
      (fun j r => j ≤ 4 ∧ ∃ (row' : List Int) (s4 s5 : Slot), r = encN sc row' (.val (.int x)) s3 s4 s5 ∧ row'.length = row.length + j)
      ((List.range 4).map fun k => .int ((k : Nat) : Int)) 0 _ ⟨Nat.zero_le _, row, s4, s5, rfl, rfl⟩ (fun i y r hi ⟨hj, row', s4, s5, hr', h1⟩ => by
        subst hr'
        have hi' : i < 4 := by
          have := (List.getElem?_eq_some_iff.mp hi).1
          simpa using this
        obtain ⟨k, rfl⟩ : ∃ k : Int, y = .int k := by
          rw [List.getElem?_map] at hi
          obtain ⟨k, _, rfl⟩ := Option.map_eq_some_iff.mp hi
          exact ⟨_, rfl⟩
        refine ⟨encN sc (row' ++ [((x * 48271 + k * 69621 + 11) % 2147483647 * 16807 + k) % 2147483629]) (.val (.int x)) s3 (.val (.int k)) (.val (.int ((x * 48271 + k * 69621 + 11) % 2147483647))), .inl ?_, by omega, _, _, _, rfl, by simp; omega⟩
        refine ss_nx (s_asg (m_keep (ev_bin (ev_bi (evs_cons (ev_bin (ev_bin (ev_bin (ev_var rfl) ev_con (b_mul _ _ (mul_ok_r (by decide) (by decide)))) (ev_bin (ev_var rfl) ev_con (b_mul _ _ (mul_ok_r (by decide) (by decide)))) (b_add _ _)) ev_con (b_add _ _)) evs_nil) (bi_int _)) ev_con (b_mod _ _ (by decide))))) ?_
        exact ss_nx (s_app rfl (m_keep (ev_bin (ev_bi (evs_cons (ev_bin (ev_bin (ev_var rfl) ev_con (b_mul _ _ (mul_ok_r (by decide) (by decide)))) (ev_var rfl) (b_add _ _)) evs_nil) (bi_int _)) ev_con (b_mod _ _ (by decide)))) rfl (app_int (by unfold LIM; omega))) ss_nil)
    exact ⟨r', e, by obtain ⟨_, row', s4, s5, h1, h2⟩ := h; exact ⟨row', s4, s5, h1, by simpa using h2⟩⟩
  -- the outer loop
  have r60 : rngD (.int 0) (.int 60) = some (.list ((List.range 60).map fun k => .int ((k : Nat) : Int))) := by
    rw [rng_eq' (by decide) (by decide) (by decide) (by decide)]; simp
  have r4 : rngD (.int 0) (.int 4) = some (.list ((List.range 4).map fun k => .int ((k : Nat) : Int))) := by
    rw [rng_eq' (by decide) (by decide) (by decide) (by decide)]; simp
  obtain ⟨r1, e1, h1⟩ := loop_inv (f := fun y rr => match asgG (.nm 2) y rr with
        | none => .bad
        | some r2 => evSs tab (callF tab n) [.ife (.keep []) (.cmp .ge (.var 2) (.bin .pow (.con (.int 10)) (.con (.int 18)))) [
      .asg 3 0 (.keep []) (.var 2),
      .for (.nm 4) (.keep []) (.rng (.con (.int 0)) (.con (.int 60))) [
        .ife (.keep []) (.cmp .eq (.var 3) (.con (.int 0))) [
          .brk] [],
        .app 1 (.keep []) (.bin .mod (.bi .int [(.var 3)]) (.con (.int 997))),
        .asg 3 0 (.keep []) (.bin .fdiv (.var 3) (.con (.int 997)))]] [
      .for (.nm 4) (.keep []) (.rng (.con (.int 0)) (.con (.int 4))) [
        .asg 5 0 (.keep []) (.bin .mod (.bi .int [(.bin .add (.bin .add (.bin .mul (.var 2) (.con (.int 48271))) (.bin .mul (.var 4) (.con (.int 69621)))) (.con (.int 11)))]) (.con (.int 2147483647))),
        .app 1 (.keep []) (.bin .mod (.bi .int [(.bin .add (.bin .mul (.var 5) (.con (.int 16807))) (.var 4))]) (.con (.int 2147483629)))]]] r2)
    (fun j r => j ≤ 63 ∧ ∃ (row : List Int) (s2 s3 s4 s5 : Slot), r = encN sc row s2 s3 s4 s5 ∧ row.length ≤ 60 * j) (ns.map .int) 0 (encN sc [] .non .non .non .non) ⟨Nat.zero_le _, [], _, _, _, _, rfl, Nat.le_refl _⟩ (fun i y r hi ⟨hj, row, s2, s3, s4, s5, hr, hrl⟩ => by
      subst hr
      have hi' : i < ns.length := by
        have := (List.getElem?_eq_some_iff.mp hi).1
        simpa using this
      obtain ⟨x, rfl⟩ : ∃ x : Int, y = .int x := by
        rw [List.getElem?_map] at hi
        obtain ⟨k, _, rfl⟩ := Option.map_eq_some_iff.mp hi
        exact ⟨_, rfl⟩
      by_cases hx : 1000000000000000000 ≤ x
      · obtain ⟨r', e, row', s3', s4', s5', rfl, ha, hb⟩ := in60 row x x s4 s5 (by omega)
        refine ⟨encN sc row' (.val (.int x)) s3' s4' s5', .inl (ss_nx (s_if (k := true) (t_keep (ev_as (ev_cmp (ev_var rfl) (ev_bin ev_con ev_con b_pow10) (r_ge _ _)) (by simp [hx])) (t_b _)) (fun _ => ?_) fun h => by cases h) ss_nil), by omega, row', _, _, _, _, rfl, by omega⟩
        exact ss_nx (s_asg (m_keep (ev_var rfl))) (ss_nx (s_for (i_keep (ev_rng ev_con ev_con r60) rfl) e) ss_nil)
      · obtain ⟨r', e, row', s4', s5', rfl, ha⟩ := in4 row x s3 s4 s5 (by omega)
        refine ⟨encN sc row' (.val (.int x)) s3 s4' s5', .inl (ss_nx (s_if (k := false) (t_keep (ev_as (ev_cmp (ev_var rfl) (ev_bin ev_con ev_con b_pow10) (r_ge _ _)) (by simp [hx])) (t_b _)) (fun h => by cases h) fun _ => ?_) ss_nil), by omega, row', _, _, _, _, rfl, by omega⟩
        exact ss_nx (s_for (i_keep (ev_rng ev_con ev_con r4) rfl) e) ss_nil)
  obtain ⟨_, row, s2, s3, s4, s5, rfl, hrl⟩ := h1
  have hrl' : row.length ≤ 3780 := by
    simp only [List.length_map, Nat.zero_add] at hrl
    omega
  have pre : ∀ r2 rowF, StS tab (callF tab n) (encN sc row s2 s3 s4 s5) [.ife .look (.cmp .eq (.bi .len [(.var 1)]) (.con (.int 0))) [
    .app 1 (.keep []) (.con (.int 0))] [], .retv 1] (.ret 1 (.list (rowF.map .int))) r2 → Cal (callF tab (n + 1)) f__law_numbers [sc] (.list ((rowF : List Int).map .int)) := fun r2 rowF h => by
    refine call_ret (n := n) (kk := 1) (r' := r2) rfl rfl rfl ?_ rfl
    refine ss_nx (s_asg (m_keep (ev_lst evs_nil (by decide)))) ?_
    refine ss_nx (s_for (i_keep (ev_slc0 (ev_var rfl) (by rw [← hsc]; exact cut_all ns hl)) rfl) e1) ?_
    exact h
  have e5 : (row.map PyData.int).length = row.length := List.length_map ..
  by_cases h0 : row.length = 0
  · have e0 : row = [] := List.eq_nil_of_length_eq_zero h0
    subst e0
    refine ⟨[0], by simp, by simp, pre (encN sc [0] s2 s3 s4 s5) [0] ?_⟩
    refine ss_nx (s_if (k := true) (t_look (ev_as (ev_cmp (ev_bi (evs_cons (ev_var rfl) evs_nil) (bi_len _)) ev_con (r_eq _ _)) (by simp)) (t_b _)) (fun _ => ?_) fun h => by cases h) (ss_ret (s_retO rfl))
    exact ss_nx (s_app (y := .list [.int 0]) rfl (m_keep ev_con) rfl rfl) ss_nil
  · refine ⟨row, by omega, by omega, pre (encN sc row s2 s3 s4 s5) row ?_⟩
    refine ss_nx (s_if (k := false) (t_look (ev_as (ev_cmp (ev_bi (evs_cons (ev_var rfl) evs_nil) (bi_len _)) ev_con (r_eq _ _)) (by rw [e5]; simp; intro hh; exact h0 (by simp [hh]))) (t_b _)) (fun h => by cases h) fun _ => ss_nil) (ss_ret (s_retO rfl))
end Cw
end

section
namespace Cw
open PySem
def sort3 (x y z : Int) : List Int := if x ≤ y then (if y ≤ z then [x,y,z] else if x ≤ z then [x,z,y] else [z,x,y]) else (if x ≤ z then [y,x,z] else if y ≤ z then [y,z,x] else [z,y,x])
theorem t3 (x y z : Int) : [x,y,z].mergeSort (fun a b => decide (a ≤ b)) = sort3 x y z := by
  unfold sort3
  simp [List.mergeSort, List.MergeSort.Internal.splitInTwo, List.merge]
  by_cases h1 : x ≤ y <;> by_cases h2 : y ≤ z <;> by_cases h3 : x ≤ z <;> simp [h1, h2, h3, List.merge] <;> omega
theorem sortL_ints (ns : List Int) : sortL (ns.map .int) = (ns.mergeSort fun a b => decide (a ≤ b)).map .int := by
  unfold sortL
  refine (List.map_mergeSort fun a _ b _ => ?_).symm
  have h := congrFun (congrFun (PySem.W.dataLe_int (β := Int) fun b => b) a) b
  exact h.symm
theorem sortOk_ints (ns : List Int) : sortOk (ns.map .int) = true := by
  have h1 : ((ns.map PyData.int).all fun x => (ns.map PyData.int).all fun y => PySem.W.alike x y) = true := by
    rw [List.all_eq_true]
    intro x hx
    rw [List.all_eq_true]
    intro y hy
    obtain ⟨i, _, rfl⟩ := List.mem_map.mp hx
    obtain ⟨j, _, rfl⟩ := List.mem_map.mp hy
    rfl
  have h2 : ((ns.map PyData.int).all fun x => !isNon x && !isTup x) = true := by
    rw [List.all_eq_true]
    intro x hx
    obtain ⟨i, _, rfl⟩ := List.mem_map.mp hx
    rfl
  have h3 := depth_ints ns
  unfold sortOk
  rw [h1, h2, Bool.or_true]
  exact decide_eq_true (by omega)
theorem bi_sorted3 (x y z : Int) : BiR .sorted [.list [.int x, .int y, .int z]] (.list ((sort3 x y z).map .int)) := ⟨by
  have e := sortOk_ints [x, y, z]
  have e2 := sortL_ints [x, y, z]
  rw [t3] at e2
  simp only [List.map_cons, List.map_nil] at e e2
  simp only [biD, e, if_true, e2]⟩
/-- lists of ints in order -/
def lexB : List Int → List Int → Bool
  | _, [] => false
  | [], _ :: _ => true
  | x :: xs, y :: ys => decide (x < y) || (decide (x = y) && lexB xs ys)
theorem lexB_lt : ∀ xs ys : List Int, decide (xs < ys) = lexB xs ys
  | [], [] => by simp [lexB]
  | [], y :: ys => by simp [lexB]
  | x :: xs, [] => by simp [lexB]
  | x :: xs, y :: ys => by
    have ih := lexB_lt xs ys
    unfold lexB
    rw [← ih]
    rw [Bool.eq_iff_iff]
    simp [List.cons_lt_cons_iff]
theorem lt_tupI (xs ys : List Int) : PySem.W.dataLt (.tuple (xs.map .int)) (.tuple (ys.map .int)) = lexB xs ys := by
  rw [PySem.W.dataLt_tuple, ← lexB_lt]
  exact PySem.W.dataLt_ints xs ys
theorem eqvAll_ints : ∀ xs ys : List Int, PyData.eqvAll (xs.map .int) (ys.map .int) = decide (xs = ys)
  | [], [] => by simp [PyData.eqvAll]
  | [], y :: ys => by simp [PyData.eqvAll]
  | x :: xs, [] => by simp [PyData.eqvAll]
  | x :: xs, y :: ys => by
    have ih := eqvAll_ints xs ys
    simp only [List.map_cons, PyData.eqvAll, PyData.eqv, ih]
    rw [Bool.eq_iff_iff]
    simp
theorem eqv_tupI (xs ys : List Int) : PyData.eqv (.tuple (xs.map .int)) (.tuple (ys.map .int)) = decide (xs = ys) := by
  simp only [PyData.eqv]
  exact eqvAll_ints xs ys
theorem alikeAll_ints : ∀ xs ys : List Int, PySem.W.alikeAll (xs.map .int) (ys.map .int) = true
  | [], ys => by simp [PySem.W.alikeAll]
  | x :: xs, [] => by simp [PySem.W.alikeAll]
  | x :: xs, y :: ys => by simp [PySem.W.alikeAll, PySem.W.alike, alikeAll_ints xs ys]
abbrev Tri := Int × Int × Int
def srt (p : Tri) : List Int := sort3 p.1 p.2.1 p.2.2
def raw (p : Tri) : List Int := [p.1, p.2.1, p.2.2]
def keyD (p : Tri) : D := .tuple [.tuple ((srt p).map .int), .tuple ((raw p).map .int)]
def kLt (p q : Tri) : Bool := if decide (srt p = srt q) = true then (if decide (raw p = raw q) = true then false else lexB (raw p) (raw q)) else lexB (srt p) (srt q)
theorem lt_key (p q : Tri) : PySem.W.dataLt (keyD p) (keyD q) = kLt p q := by
  unfold keyD kLt
  rw [PySem.W.dataLt_pair (by simp only [PySem.W.alike]; exact alikeAll_ints _ _) (by simp only [PySem.W.alike]; exact alikeAll_ints _ _), eqv_tupI, eqv_tupI, lt_tupI, lt_tupI]
theorem depth_key (p : Tri) : (keyD p).depth ≤ 10 := by
  have h1 := depth_ints (srt p)
  have h2 := depth_ints (raw p)
  simp only [keyD, PyData.depth, PyData.depthAll]
  omega
theorem r_gtK (p q : Tri) : CmpR .gt (keyD p) (keyD q) (kLt q p) := ⟨by
  show ltD (keyD q) (keyD p) = _
  have h1 := depth_key p
  have h2 := depth_key q
  have e1 : PySem.W.alike (keyD q) (keyD p) = true := by
    simp only [keyD, PySem.W.alike, PySem.W.alikeAll, alikeAll_ints, Bool.and_self]
  have e2 : deepOk (keyD q) (keyD p) = true := decide_eq_true (by omega)
  unfold ltD
  rw [e1, e2, lt_key]
  rfl⟩
theorem r_neT (xs ys : List Int) : CmpR .ne (.tuple (xs.map .int)) (.tuple (ys.map .int)) (!decide (xs = ys)) := ⟨by
  show (eqD _ _).map _ = _
  have h1 := depth_ints xs
  have e2 : deepOk (.tuple (xs.map .int)) (.tuple (ys.map .int)) = true := decide_eq_true (by simp only [PyData.depth]; omega)
  unfold eqD
  rw [plain_intsT, plain_intsT, e2, eqv_tupI]
  rfl⟩
theorem r_neN : CmpR .ne .none .none false := ⟨by rfl⟩
theorem plain_pairs : ∀ ps : List (Nat × Nat), PyData.plainAll (ps.map fun p => pairD p.1 p.2) = true
  | [] => by simp [PyData.plainAll]
  | p :: ps => by
    have ih := plain_pairs ps
    simp only [List.map_cons, PyData.plainAll, ih, Bool.and_true]
    rfl
theorem depth_pairs : ∀ ps : List (Nat × Nat), PyData.depthAll (ps.map fun p => pairD p.1 p.2) ≤ 5
  | [] => by simp [PyData.depthAll]
  | p :: ps => by
    have := depth_pairs ps
    simp only [List.map_cons, PyData.depthAll, pairD, PyData.depth]
    simp only [pairD] at this
    omega
theorem envAll_pairs (ns gs : List Int) : ∃ ps : List (Nat × Nat), envAll ns gs = ps.map fun p => pairD p.1 p.2 := by
  refine ⟨(List.range ns.length).flatMap fun i => ((List.range ns.length).filter (envC ns gs i)).map fun j => (i, j), ?_⟩
  unfold envAll envRow
  rw [List.map_flatMap]
  congr 1
  funext i
  rw [List.map_map]
  rfl
theorem r_neP (ns gs : List Int) : CmpR .ne (.tuple (envAll ns gs)) (.tuple (envAll ns gs)) false := ⟨by
  obtain ⟨ps, e⟩ := envAll_pairs ns gs
  rw [e]
  show (eqD _ _).map _ = _
  have h1 := depth_pairs ps
  have e2 : deepOk (.tuple (ps.map fun p => pairD p.1 p.2)) (.tuple (ps.map fun p => pairD p.1 p.2)) = true := decide_eq_true (by simp only [PyData.depth]; omega)
  have e3 : (PyData.tuple (ps.map fun p => pairD p.1 p.2)).plain = true := plain_pairs ps
  have e4 : PyData.eqv (.tuple (ps.map fun p => pairD p.1 p.2)) (.tuple (ps.map fun p => pairD p.1 p.2)) = true := PySem.SeqAt.eqv_refl_plain _ e3
  unfold eqD
  rw [e3, e2, e4]
  rfl⟩
end Cw
end

section
namespace Cw
open PySem
theorem okW_prt {r : Env} {vs : List Nat} : okW (prtA r) vs = true := by
  unfold okW prtA
  rw [List.all_eq_true]
  intro v _
  rw [List.getElem?_map]
  cases r[v]? with
  | none => rfl
  | some s => cases s <;> rfl
/-- the frame of the law -/
abbrev eL (sc rw_ : D) (pt nb : Int) (q5 q6 q7 q8 q9 q10 q11 q12 q13 q14 q15 q16 q17 q18 q19 q20 q21 q22 : Slot) : Env :=
  [.val sc, .val rw_, .own 1 (.list [.int 1]), .val (.int pt), .val (.int nb), q5, q6, q7, q8, q9, q10, q11, q12, q13, q14, q15, q16, q17, q18, q19, q20, q21, q22]
/-- the best so far -/
def bestD : Option Tri → D
  | none => .none
  | some p => keyD p
def bStep (p : Tri) (b : Option Tri) : Option Tri := match b with
  | none => some p
  | some q => if kLt q p then some p else b
def gtB (b : Option Tri) (p : Tri) : Bool := match b with
  | none => true
  | some q => kLt q p
def ti (p : Tri) : D := .tuple [.int p.1, .int p.2.1, .int p.2.2]
theorem ti_raw (p : Tri) : ti p = .tuple ((raw p).map .int) := rfl
theorem itE (b : Option Tri) (p : Tri) : (if (b.isNone || gtB b p) = true then keyD p else bestD b) = bestD (bStep p b) := by
  cases b with
  | none => rfl
  | some q =>
    simp only [bStep, gtB, Option.isNone_some, Bool.false_or]
    split <;> rfl
section
variable {T : Nat → Option Fn} {c : Nat → List D → OutC} {r : Env}
theorem r_isN (b : Option Tri) : CmpR .isn (bestD b) .none (b.isNone) := ⟨by cases b <;> rfl⟩
end
/-- the rows of `meant` are those of envies -/
theorem row_eq (a b cc x y z : Int) (i : Nat) : ((List.range 3).filter fun j : Nat => decide ([x,y,z].getD i 0 < [a,b,cc].getD i 0) && decide ((2 : Int) ≤ [x,y,z].getD j 0 - [x,y,z].getD i 0)).map (pairD i) = envRow [a,b,cc] [x,y,z] i := by
  unfold envRow
  congr 1
  congr 1
  funext j
  unfold envC
  congr 1
  rw [decide_eq_decide]
  omega
theorem get3 {x y z : Int} {k : Nat} (h : k < 3) : [x, y, z][k]? = some ([x, y, z].getD k 0) := getD_get (vs := [x, y, z]) h
theorem r3 : rngD (.int 0) (.int 3) = some (.list ((List.range 3).map fun k => .int ((k : Nat) : Int))) := by
  rw [rng_eq' (by decide) (by decide) (by decide) (by decide)]; simp
theorem binL (xs ys : List D) (h : xs.length + ys.length ≤ LIM) : BinR .add (.list xs) (.list ys) (.list (xs ++ ys)) := ⟨by simp only [binD, h, if_true]⟩
def bMeant : List MS := [.asg 19 0 (.keep []) (.bin .add (.var 19) (.comp (.tup [(.var 21), (.var 22)]) (.nm 22) (.rng (.con (.int 0)) (.con (.int 3))) (some (.and (.cmp .lt (.idx (.var 20) (.var 21)) (.idx (.var 8) (.var 21))) (.cmp .ge (.bin .sub (.idx (.var 20) (.var 22)) (.idx (.var 20) (.var 21))) (.con (.int 2)))))))]
theorem meant_loop (n : Nat) (sc rw_ : D) (pt nb a b cc x y z : Int) (q5 q6 q7 q9 q10 q11 q12 q13 q14 q15 q16 q17 q18 q21 q22 : Slot) : ∃ q21', loopF (fun v rr => match asgG (.nm 21) v rr with
        | none => .bad
        | some r2 => evSs tab (callF tab n) bMeant r2) ((List.range 3).map fun k => .int ((k : Nat) : Int)) (eL sc rw_ pt nb q5 q6 q7 (.val (ti (a, b, cc))) q9 q10 q11 q12 q13 q14 q15 q16 q17 q18 (.val (.list [])) (.val (ti (x, y, z))) q21 q22) =
      .ok .nx (eL sc rw_ pt nb q5 q6 q7 (.val (ti (a, b, cc))) q9 q10 q11 q12 q13 q14 q15 q16 q17 q18 (.val (.list (envAll [a,b,cc] [x,y,z]))) (.val (ti (x, y, z))) q21' q22) := by
  have q := for_runP (f := fun v rr => match asgG (.nm 21) v rr with
        | none => .bad
        | some r2 => evSs tab (callF tab n) bMeant r2) (fun k : Nat => PyData.int (k : Nat)) (fun s : List D × Slot => eL sc rw_ pt nb q5 q6 q7 (.val (ti (a, b, cc))) q9 q10 q11 q12 q13 q14 q15 q16 q17 q18 (.val (.list s.1)) (.val (ti (x, y, z))) s.2 q22)
    (fun i s => (s.1 ++ envRow [a,b,cc] [x,y,z] i, .val (.int (i : Nat)))) (fun j s => s.1.length ≤ 3 * j ∧ j ≤ 3) (List.range 3) 0 ([], q21) ⟨Nat.le_refl _, Nat.zero_le _⟩ (fun j i s hi ⟨h1, h2⟩ => by
      have hi3 : i < 3 := List.mem_range.mp (List.mem_of_getElem? hi)
      have hj3 : j < 3 := by
        have := (List.getElem?_eq_some_iff.mp hi).1
        simpa using this
      have hl := envRow_len [a,b,cc] [x,y,z] i
      simp only [List.length_cons, List.length_nil] at hl
      refine ⟨.inl ?_, by show (s.1 ++ envRow _ _ i).length ≤ _; rw [List.length_append]; omega, by omega⟩
      refine ss_nx (s_asg (m_keep (ev_bin (ev_var rfl) (ev_as (ev_comp (h := fun k : Nat => .int (k : Nat)) (ns := List.range 3) (p := fun j : Nat => decide ([x,y,z].getD i 0 < [a,b,cc].getD i 0) && decide ((2 : Int) ≤ [x,y,z].getD j 0 - [x,y,z].getD i 0)) (g := pairD i) (ev_rng ev_con ev_con r3) rfl okW_prt (by decide) (fun k hk => ?_) (fun k hk _ => ?_)) (by rw [row_eq])) (binL _ _ (by unfold LIM; omega))))) ss_nil
      · have hk3 := List.mem_range.mp hk
        exact c_some (ev_and (ev_cmp (ev_idx (ev_var rfl) (ev_var rfl) (idx_int (vs := [x,y,z]) (get3 hi3))) (ev_idx (ev_var rfl) (ev_var rfl) (idx_int (vs := [a,b,cc]) (get3 hi3))) (r_lt _ _)) fun _ => ev_cmp (ev_bin (ev_idx (ev_var rfl) (ev_var rfl) (idx_int (vs := [x,y,z]) (get3 hk3))) (ev_idx (ev_var rfl) (ev_var rfl) (idx_int (vs := [x,y,z]) (get3 hi3))) (b_sub _ _)) ev_con (r_ge _ _)) (t_b _)
      · exact ev_tup (evs_cons (ev_var rfl) (evs_cons (ev_var rfl) evs_nil)) (by show 2 ≤ LIM; decide))
  have e2 : ∀ (is : List Nat) (s : List D × Slot), (is.foldl (fun (s : List D × Slot) (i : Nat) => (s.1 ++ envRow [a,b,cc] [x,y,z] i, Slot.val (.int (i : Nat)))) s).1 = s.1 ++ is.flatMap (envRow [a,b,cc] [x,y,z]) := by
    intro is
    induction is with
    | nil => intro s; simp
    | cons i is ih => intro s; rw [List.foldl_cons, ih]; simp
  have q1 := q.1
  rw [e2] at q1
  exact ⟨_, q1⟩
def bIn : List MS := [.asg 18 0 (.keep []) (.tup [(.bi .tuple [(.bi .sorted [(.lst [(.var 12), (.var 15), (.var 16)])])]), (.tup [(.var 12), (.var 15), (.var 16)])]),
                  .asg 11 0 (.keep []) (.ite (.or (.cmp .isn (.var 11) (.con .none)) (.cmp .gt (.var 18) (.var 11))) (.var 18) (.var 11)),
                  .asg 19 0 (.keep []) (.lst []),
                  .asg 20 0 (.keep []) (.tup [(.var 12), (.var 15), (.var 16)]),
                  .for (.nm 21) (.keep []) (.rng (.con (.int 0)) (.con (.int 3))) bMeant,
                  .ife (.keep []) (.and (.cmp .eq (.bin .mod (.bi .int [(.bin .add (.var 12) (.var 15))]) (.con (.int 3))) (.con (.int 0))) (.cmp .ne (.call 14 [(.var 8), (.var 20)]) (.bi .tuple [(.var 19)]))) [
                    .ret 0 (.keep []) (.con (.bool false))] []]
theorem t_is0 (b : Bool) : Trth (.bool b) b := ⟨rfl⟩
theorem in_run (n : Nat) (sc rw_ : D) (pt nb a b cc x y z : Int) (ha : 0 ≤ a ∧ a ≤ 6) (hb : 0 ≤ b ∧ b ≤ 6) (hc : 0 ≤ cc ∧ cc ≤ 6) (hx : 0 ≤ x) (hy : 0 ≤ y) (hz : 0 ≤ z) (best : Option Tri) (q5 q6 q7 q9 q10 q13 q14 q17 q18 q19 q20 q21 q22 : Slot) :
    ∃ q18' q19' q20' q21', StS tab (callF tab (n + 5)) (eL sc rw_ pt nb q5 q6 q7 (.val (ti (a, b, cc))) q9 q10 (.val (bestD best)) (.val (.int x)) q13 q14 (.val (.int y)) (.val (.int z)) q17 q18 q19 q20 q21 q22) bIn .nx
      (eL sc rw_ pt nb q5 q6 q7 (.val (ti (a, b, cc))) q9 q10 (.val (bestD (bStep (x, y, z) best))) (.val (.int x)) q13 q14 (.val (.int y)) (.val (.int z)) q17 q18' q19' q20' q21' q22) := by
  obtain ⟨q21', hm⟩ := meant_loop (n + 5) sc rw_ pt nb a b cc x y z q5 q6 q7 q9 q10 (.val (bestD (bStep (x, y, z) best))) (.val (.int x)) q13 q14 (.val (.int y)) (.val (.int z)) q17 (.val (keyD (x, y, z))) q21 q22
  refine ⟨.val (keyD (x, y, z)), .val (.list (envAll [a,b,cc] [x,y,z])), .val (ti (x, y, z)), q21', ?_⟩
  have ce := c_envies n [a,b,cc] [x,y,z] (by simp) (by simp) (by intro v hv; simp at hv; omega) (by intro v hv; simp at hv; omega) rfl
  refine ss_nx (s_asg (m_keep (ev_tup (evs_cons (ev_bi (evs_cons (ev_bi (evs_cons (ev_lst (evs_cons (ev_var rfl) (evs_cons (ev_var rfl) (evs_cons (ev_var rfl) evs_nil))) (by show 3 ≤ LIM; decide)) evs_nil) (bi_sorted3 x y z)) evs_nil) (bi_tup _)) (evs_cons (ev_tup (evs_cons (ev_var rfl) (evs_cons (ev_var rfl) (evs_cons (ev_var rfl) evs_nil))) (by show 3 ≤ LIM; decide)) evs_nil)) (by show 2 ≤ LIM; decide)))) ?_
  refine ss_nx (s_asg (m_keep (ev_as (y := bestD (bStep (x, y, z) best)) (ev_ite (y := keyD (x, y, z)) (z := bestD best) (ev_or (ev_cmp (ev_var rfl) ev_con (r_isN best)) (l := gtB best (x, y, z)) (fun hn => ?_)) (t_b _) (fun _ => ev_var rfl) (fun _ => ev_var rfl)) ?_))) ?_
  · cases best with
    | none => cases hn
    | some q => exact ev_cmp (ev_var rfl) (ev_var rfl) (r_gtK (x, y, z) q)
  · exact itE best (x, y, z)
  refine ss_nx (s_asg (m_keep (ev_lst evs_nil (by decide)))) ?_
  refine ss_nx (s_asg (m_keep (ev_tup (evs_cons (ev_var rfl) (evs_cons (ev_var rfl) (evs_cons (ev_var rfl) evs_nil))) (by show 3 ≤ LIM; decide)))) ?_
  refine ss_nx (s_for (i_keep (ev_rng ev_con ev_con r3) rfl) hm) ?_
  refine ss_nx (s_if (k := false) (t_keep (ev_as (ev_and (ev_cmp (ev_bin (ev_bi (evs_cons (ev_bin (ev_var rfl) (ev_var rfl) (b_add _ _)) evs_nil) (bi_int _)) ev_con (b_mod _ _ (by decide))) ev_con (r_eq _ _)) (fun _ => ev_cmp (ev_call rfl rfl (as_cons (ev_var rfl) (as_cons (ev_var rfl) as_nil)) ce) (ev_bi (evs_cons (ev_var rfl) evs_nil) (bi_tup _)) (r_neP [a,b,cc] [x,y,z]))) (by rw [Bool.and_false])) (t_b _)) (fun h => by cases h) fun _ => ss_nil) ss_nil
end Cw
end

section
namespace Cw
open PySem
def yStep (some_ cc x : Int) (b : Option Tri) (y : Nat) : Option Tri := if some_ - x - (y : Int) ≤ cc then bStep (x, (y : Int), some_ - x - (y : Int)) b else b
def yCnt (b some_ x : Int) : Nat := (min b (some_ - x) + 1).toNat
def xStep (b some_ cc : Int) (s : Option Tri) (x : Nat) : Option Tri := (List.range (yCnt b some_ x)).foldl (yStep some_ cc x) s
def bestOf (a b cc some_ : Int) : Option Tri := (List.range (min a some_ + 1).toNat).foldl (xStep b some_ cc) none
def bY : List MS := [.asg 16 0 (.keep []) (.bin .sub (.bin .sub (.var 10) (.var 12)) (.var 15)),
                .ife (.keep []) (.cmp .le (.var 16) (.var 7)) bIn []]
def bX : List MS := [.for (.nm 15) (.keep []) (.rng (.con (.int 0)) (.bin .add (.bi .min2 [(.var 6), (.bin .sub (.var 10) (.var 12))]) (.con (.int 1)))) bY]
theorem rng0 {m : Int} (h1 : 0 ≤ m) (h2 : m ≤ 1000000) : rngD (.int 0) (.int m) = some (.list ((List.range m.toNat).map fun k => .int ((k : Nat) : Int))) := by
  rw [rng_eq' (by decide) (by decide) (by omega) (by omega)]; simp
theorem y_loop (n : Nat) (sc rw_ : D) (pt nb a b cc some_ x : Int) (ha : 0 ≤ a ∧ a ≤ 6) (hb : 0 ≤ b ∧ b ≤ 6) (hc : 0 ≤ cc ∧ cc ≤ 6) (hx : 0 ≤ x) (hs : x ≤ some_) (best : Option Tri) (q5 q9 q13 q14 q15 q16 q17 q18 q19 q20 q21 q22 : Slot) :
    ∃ q15' q16' q18' q19' q20' q21', loopF (fun v rr => match asgG (.nm 15) v rr with
        | none => .bad
        | some r2 => evSs tab (callF tab (n + 5)) bY r2) ((List.range (yCnt b some_ x)).map fun k => .int ((k : Nat) : Int)) (eL sc rw_ pt nb q5 (.val (.int b)) (.val (.int cc)) (.val (ti (a, b, cc))) q9 (.val (.int some_)) (.val (bestD best)) (.val (.int x)) q13 q14 q15 q16 q17 q18 q19 q20 q21 q22) = .ok .nx
      (eL sc rw_ pt nb q5 (.val (.int b)) (.val (.int cc)) (.val (ti (a, b, cc))) q9 (.val (.int some_)) (.val (bestD ((List.range (yCnt b some_ x)).foldl (yStep some_ cc x) best))) (.val (.int x)) q13 q14 q15' q16' q17 q18' q19' q20' q21' q22) := by
  obtain ⟨r', e, h⟩ := loop_inv (f := fun v rr => match asgG (.nm 15) v rr with
        | none => .bad
        | some r2 => evSs tab (callF tab (n + 5)) bY r2)
    (fun j r => j ≤ yCnt b some_ x ∧ ∃ q15 q16 q18 q19 q20 q21, r = eL sc rw_ pt nb q5 (.val (.int b)) (.val (.int cc)) (.val (ti (a, b, cc))) q9 (.val (.int some_)) (.val (bestD ((List.range j).foldl (yStep some_ cc x) best))) (.val (.int x)) q13 q14 q15 q16 q17 q18 q19 q20 q21 q22)
    ((List.range (yCnt b some_ x)).map fun k => .int ((k : Nat) : Int)) 0 _ ⟨Nat.zero_le _, q15, q16, q18, q19, q20, q21, rfl⟩ (fun i v r hi ⟨hj, q15, q16, q18, q19, q20, q21, hr⟩ => by
      subst hr
      rw [List.getElem?_map] at hi
      obtain ⟨k, hk, rfl⟩ := Option.map_eq_some_iff.mp hi
      have hi' : i < yCnt b some_ x := by
        have := (List.getElem?_eq_some_iff.mp hk).1
        simpa using this
      have ek : k = i := by
        rw [List.getElem?_range hi'] at hk
        exact (Option.some.inj hk).symm
      subst ek
      have hz : 0 ≤ some_ - x - (k : Int) := by
        unfold yCnt at hi'
        omega
      have ef : (List.range (0 + k + 1)).foldl (yStep some_ cc x) best = yStep some_ cc x ((List.range (0 + k)).foldl (yStep some_ cc x) best) k := by
        rw [show 0 + k + 1 = k + 1 by omega, List.range_succ, List.foldl_append, show 0 + k = k by omega]; rfl
      generalize hB : (List.range (0 + k)).foldl (yStep some_ cc x) best = B at *
      by_cases hzc : some_ - x - (k : Int) ≤ cc
      · obtain ⟨q18', q19', q20', q21', hin⟩ := in_run n sc rw_ pt nb a b cc x k (some_ - x - (k : Int)) ha hb hc hx (by omega) hz B q5 (.val (.int b)) (.val (.int cc)) q9 (.val (.int some_)) q13 q14 q17 q18 q19 q20 q21 q22
        refine ⟨_, .inl (ss_nx (s_asg (m_keep (ev_bin (ev_bin (ev_var rfl) (ev_var rfl) (b_sub _ _)) (ev_var rfl) (b_sub _ _)))) (ss_nx (s_if (k := true) (t_keep (ev_as (ev_cmp (ev_var rfl) (ev_var rfl) (r_le _ _)) (by rw [decide_eq_true hzc])) (t_b _)) (fun _ => hin) fun h => by cases h) ss_nil)), by omega, .val (.int (k : Nat)), .val (.int (some_ - x - (k : Int))), q18', q19', q20', q21', ?_⟩
        rw [ef]
        have e2 : yStep some_ cc x B k = bStep (x, (k : Int), some_ - x - (k : Int)) B := if_pos hzc
        rw [e2]
      · refine ⟨_, .inl (ss_nx (s_asg (m_keep (ev_bin (ev_bin (ev_var rfl) (ev_var rfl) (b_sub _ _)) (ev_var rfl) (b_sub _ _)))) (ss_nx (s_if (k := false) (t_keep (ev_as (ev_cmp (ev_var rfl) (ev_var rfl) (r_le _ _)) (by rw [decide_eq_false hzc])) (t_b _)) (fun h => by cases h) fun _ => ss_nil) ss_nil)), by omega, .val (.int (k : Nat)), .val (.int (some_ - x - (k : Int))), q18, q19, q20, q21, ?_⟩
        rw [ef]
        have e2 : yStep some_ cc x B k = B := if_neg hzc
        rw [e2]
        rfl)
  obtain ⟨_, q15', q16', q18', q19', q20', q21', hr⟩ := h
  rw [List.length_map, List.length_range, Nat.zero_add] at hr
  subst hr
  exact ⟨q15', q16', q18', q19', q20', q21', e⟩
theorem x_loop (n : Nat) (sc rw_ : D) (pt nb a b cc some_ : Int) (ha : 0 ≤ a ∧ a ≤ 6) (hb : 0 ≤ b ∧ b ≤ 6) (hc : 0 ≤ cc ∧ cc ≤ 6) (hs : 0 ≤ some_) (hs2 : some_ ≤ 100) (q5 q9 q12 q13 q14 q15 q16 q17 q18 q19 q20 q21 q22 : Slot) :
    ∃ q12' q15' q16' q18' q19' q20' q21', loopF (fun v rr => match asgG (.nm 12) v rr with
        | none => .bad
        | some r2 => evSs tab (callF tab (n + 5)) bX r2) ((List.range (min a some_ + 1).toNat).map fun k => .int ((k : Nat) : Int)) (eL sc rw_ pt nb q5 (.val (.int b)) (.val (.int cc)) (.val (ti (a, b, cc))) q9 (.val (.int some_)) (.val (bestD none)) q12 q13 q14 q15 q16 q17 q18 q19 q20 q21 q22) = .ok .nx
      (eL sc rw_ pt nb q5 (.val (.int b)) (.val (.int cc)) (.val (ti (a, b, cc))) q9 (.val (.int some_)) (.val (bestD (bestOf a b cc some_))) q12' q13 q14 q15' q16' q17 q18' q19' q20' q21' q22) := by
  obtain ⟨r', e, h⟩ := loop_inv (f := fun v rr => match asgG (.nm 12) v rr with
        | none => .bad
        | some r2 => evSs tab (callF tab (n + 5)) bX r2)
    (fun j r => j ≤ (min a some_ + 1).toNat ∧ ∃ q12 q15 q16 q18 q19 q20 q21, r = eL sc rw_ pt nb q5 (.val (.int b)) (.val (.int cc)) (.val (ti (a, b, cc))) q9 (.val (.int some_)) (.val (bestD ((List.range j).foldl (xStep b some_ cc) none))) q12 q13 q14 q15 q16 q17 q18 q19 q20 q21 q22)
    ((List.range (min a some_ + 1).toNat).map fun k => .int ((k : Nat) : Int)) 0 _ ⟨Nat.zero_le _, q12, q15, q16, q18, q19, q20, q21, rfl⟩ (fun i v r hi ⟨hj, q12, q15, q16, q18, q19, q20, q21, hr⟩ => by
      subst hr
      rw [List.getElem?_map] at hi
      obtain ⟨k, hk, rfl⟩ := Option.map_eq_some_iff.mp hi
      have hi' : i < (min a some_ + 1).toNat := by
        have := (List.getElem?_eq_some_iff.mp hk).1
        simpa using this
      have ek : k = i := by
        rw [List.getElem?_range hi'] at hk
        exact (Option.some.inj hk).symm
      subst ek
      have ef : (List.range (0 + k + 1)).foldl (xStep b some_ cc) none = xStep b some_ cc ((List.range (0 + k)).foldl (xStep b some_ cc) none) k := by
        rw [show 0 + k + 1 = k + 1 by omega, List.range_succ, List.foldl_append, show 0 + k = k by omega]; rfl
      generalize hB : (List.range (0 + k)).foldl (xStep b some_ cc) none = B at *
      obtain ⟨q15', q16', q18', q19', q20', q21', hy⟩ := y_loop n sc rw_ pt nb a b cc some_ k ha hb hc (by omega) (by omega) B q5 q9 q13 q14 q15 q16 q17 q18 q19 q20 q21 q22
      refine ⟨_, .inl (ss_nx (s_for (i_keep (ev_rng ev_con (ev_bin (ev_bi (evs_cons (ev_var rfl) (evs_cons (ev_bin (ev_var rfl) (ev_var rfl) (b_sub _ _)) evs_nil)) (bi_min2 _ _)) ev_con (b_add _ _)) (rng0 (by omega) (by omega))) rfl) hy) ss_nil), by omega, .val (.int (k : Nat)), q15', q16', q18', q19', q20', q21', ?_⟩
      rw [ef]
      rfl)
  obtain ⟨_, q12', q15', q16', q18', q19', q20', q21', hr⟩ := h
  rw [List.length_map, List.length_range, Nat.zero_add] at hr
  subst hr
  exact ⟨q12', q15', q16', q18', q19', q20', q21', e⟩
def someN (a b cc s : Nat) : Int := min (s : Int) ((a : Int) + b + cc)
def lsEq : List Int → List Int → Bool
  | [], [] => true
  | x :: xs, y :: ys => decide (x = y) && lsEq xs ys
  | _, _ => false
theorem lsEq_eq : ∀ {xs ys : List Int}, lsEq xs ys = true → xs = ys
  | [], [], _ => rfl
  | x :: xs, y :: ys, h => by
    simp only [lsEq, Bool.and_eq_true, decide_eq_true_eq] at h
    rw [h.1, lsEq_eq h.2]
  | [], _ :: _, h => by cases h
  | _ :: _, [], h => by cases h
def chk (a b cc s : Nat) : Bool := match whileN (levC [(a : Int), b, cc] (someN a b cc s)) (· + 1) 50 0 with
  | none => false
  | some l => match bestOf a b cc (someN a b cc s) with
    | none => false
    | some p => lsEq (shr [(a : Int), b, cc] (someN a b cc s) l) (raw p)
def chkC (a b : Nat) : Bool := (List.range 7).all fun cc => (List.range (a + b + cc + 2)).all fun s => chk a b cc s
end Cw
end

section
namespace Cw
open PySem
def bS : List MS := [.asg 10 0 (.keep []) (.bi .min2 [(.var 9), (.bin .add (.bin .add (.var 5) (.var 6)) (.var 7))]),
            .asg 11 0 (.keep []) (.con .none),
            .for (.nm 12) (.keep []) (.rng (.con (.int 0)) (.bin .add (.bi .min2 [(.var 5), (.var 10)]) (.con (.int 1)))) bX,
            .asg 13 0 (.keep []) (.call 12 [(.var 8), (.var 9)]),
            .ife (.keep []) (.cmp .ne (.var 13) (.idx (.var 11) (.con (.int 1)))) [
              .ret 0 (.keep []) (.con (.bool false))] [],
            .asg 14 0 (.keep []) (.comp (.idx (.var 13) (.var 17)) (.nm 17) (.rng (.con (.int 0)) (.con (.int 3))) (some (.cmp .lt (.idx (.var 13) (.var 17)) (.idx (.var 8) (.var 17))))),
            .ife (.keep []) (.cmp .ne (.call 13 [(.var 8), (.var 9)]) (.ite (.cmp .gt (.bi .len [(.var 14)]) (.con (.int 0))) (.bi .min1 [(.var 14)]) (.con .none))) [
              .ret 0 (.keep []) (.con (.bool false))] []]
theorem chk_of {a b cc s : Nat} (h : chk a b cc s = true) : ∃ (l : Int) (p : Tri), whileN (levC [(a : Int), b, cc] (someN a b cc s)) (· + 1) 100000 0 = some l ∧ bestOf a b cc (someN a b cc s) = some p ∧ shr [(a : Int), b, cc] (someN a b cc s) l = raw p := by
  unfold chk at h
  split at h
  · cases h
  · rename_i l e
    split at h
    · cases h
    · rename_i p e2
      exact ⟨l, p, whileN_more e (by decide), e2, lsEq_eq h⟩
theorem sum3 (a b c : Int) : [a, b, c].sum = a + b + c := by simp; omega
def minD0 : List Int → D
  | [] => .none
  | v :: vs => .int (vs.foldl min v)
theorem r_neM (xs : List Int) : CmpR .ne (match xs with | [] => PyData.none | v :: vs => .int (vs.foldl min v)) (minD0 xs) false := by
  cases xs with
  | nil => exact r_neN
  | cons v vs =>
    have := r_ne (vs.foldl min v) (vs.foldl min v)
    show CmpR .ne (.int (vs.foldl min v)) (.int (vs.foldl min v)) false
    simpa using this
theorem s_run (n : Nat) (sc rw_ : D) (pt nb : Int) (a b cc s : Nat) (ha : a ≤ 6) (hb : b ≤ 6) (hc : cc ≤ 6) (hs : s ≤ 19) (hk : chk a b cc s = true) (q10 q11 q12 q13 q14 q15 q16 q17 q18 q19 q20 q21 q22 : Slot) :
    ∃ q10' q11' q12' q13' q14' q15' q16' q17' q18' q19' q20' q21', StS tab (callF tab (n + 5)) (eL sc rw_ pt nb (.val (.int (a : Nat))) (.val (.int (b : Nat))) (.val (.int (cc : Nat))) (.val (ti (a, b, cc))) (.val (.int (s : Nat))) q10 q11 q12 q13 q14 q15 q16 q17 q18 q19 q20 q21 q22) bS .nx
      (eL sc rw_ pt nb (.val (.int (a : Nat))) (.val (.int (b : Nat))) (.val (.int (cc : Nat))) (.val (ti (a, b, cc))) (.val (.int (s : Nat))) q10' q11' q12' q13' q14' q15' q16' q17' q18' q19' q20' q21' q22) := by
  obtain ⟨l, p, hw, hp, hsh⟩ := chk_of hk
  have e0 : someN a b cc s = min (s : Int) ([(a : Int), b, cc].sum) := by rw [sum3]; rfl
  obtain ⟨q12', q15', q16', q18', q19', q20', q21', hx⟩ := x_loop n sc rw_ pt nb a b cc (someN a b cc s) (by omega) (by omega) (by omega) (by unfold someN; omega) (by unfold someN; omega) (.val (.int (a : Nat))) (.val (.int (s : Nat))) q12 q13 q14 q15 q16 q17 q18 q19 q20 q21 q22
  rw [hp] at hx
  have hv : ∀ v ∈ [(a : Int), b, cc], 0 ≤ v ∧ v ≤ 1000 := by intro v hv; simp at hv; omega
  rw [e0] at hw hsh
  have cr := c_rations n (a : Int) [b, cc] (by simp) hv s l (by omega) (by omega) hw
  have cl := c_level_of n (a : Int) [b, cc] (by simp) hv s l (by omega) (by omega) hw (raw p) hsh.symm rfl
  rw [hsh] at cr
  generalize hsl : shortL (raw p) [(a : Int), b, cc] = sl at cl
  have hcomp : EvE tab (callF tab (n + 5)) (prtA (eL sc rw_ pt nb (.val (.int (a : Nat))) (.val (.int (b : Nat))) (.val (.int (cc : Nat))) (.val (ti (a, b, cc))) (.val (.int (s : Nat))) (.val (.int (someN a b cc s))) (.val (bestD (some p))) q12' (.val (.tuple ((raw p).map .int))) q14 q15' q16' q17 q18' q19' q20' q21' q22)) (.comp (.idx (.var 13) (.var 17)) (.nm 17) (.rng (.con (.int 0)) (.con (.int 3))) (some (.cmp .lt (.idx (.var 13) (.var 17)) (.idx (.var 8) (.var 17))))) (.list (sl.map .int)) := by
    have e : sl.map PyData.int = ((List.range 3).filter fun k => decide ((raw p).getD k 0 < [(a : Int), b, cc].getD k 0)).map fun k => PyData.int ((raw p).getD k 0) := by
      rw [← hsl]; unfold shortL; rw [List.map_map]; rfl
    rw [e]
    refine ev_comp (h := fun k : Nat => .int (k : Nat)) (ns := List.range 3) (ev_rng ev_con ev_con r3) rfl okW_prt (by decide) (fun k hk => ?_) (fun k hk _ => ?_)
    · have hk' := List.mem_range.mp hk
      exact c_some (ev_cmp (ev_idx (ev_var rfl) (ev_var rfl) (idx_int (vs := raw p) (getD_get (vs := raw p) hk'))) (ev_idx (ev_var rfl) (ev_var rfl) (idx_int (vs := [(a : Int), b, cc]) (get3 hk'))) (r_lt _ _)) (t_b _)
    · have hk' := List.mem_range.mp hk
      exact ev_idx (ev_var rfl) (ev_var rfl) (idx_int (vs := raw p) (getD_get (vs := raw p) hk'))
  have hite : EvE tab (callF tab (n + 5)) (prtA (eL sc rw_ pt nb (.val (.int (a : Nat))) (.val (.int (b : Nat))) (.val (.int (cc : Nat))) (.val (ti (a, b, cc))) (.val (.int (s : Nat))) (.val (.int (someN a b cc s))) (.val (bestD (some p))) q12' (.val (.tuple ((raw p).map .int))) (.val (.list (sl.map .int))) q15' q16' q17 q18' q19' q20' q21' q22)) (.ite (.cmp .gt (.bi .len [(.var 14)]) (.con (.int 0))) (.bi .min1 [(.var 14)]) (.con .none)) (minD0 sl) := by
    cases sl with
    | nil => exact ev_as (ev_ite (k := false) (y := .none) (z := .none) (ev_as (ev_cmp (ev_bi (evs_cons (ev_var rfl) evs_nil) (bi_len _)) ev_con (r_gt _ _)) (by simp)) (t_b _) (fun h => by cases h) fun _ => ev_con) rfl
    | cons v vs => exact ev_as (ev_ite (k := true) (y := .int (vs.foldl min v)) (z := .none) (ev_as (ev_cmp (ev_bi (evs_cons (ev_var rfl) evs_nil) (bi_len _)) ev_con (r_gt _ _)) (by simp)) (t_b _) (fun _ => ev_bi (evs_cons (ev_var rfl) evs_nil) (bi_min1 _ _)) fun h => by cases h) rfl
  refine ⟨.val (.int (someN a b cc s)), .val (bestD (some p)), q12', .val (.tuple ((raw p).map .int)), .val (.list (sl.map .int)), q15', q16', q17, q18', q19', q20', q21', ?_⟩
  refine ss_nx (s_asg (m_keep (ev_bi (evs_cons (ev_var rfl) (evs_cons (ev_bin (ev_bin (ev_var rfl) (ev_var rfl) (b_add _ _)) (ev_var rfl) (b_add _ _)) evs_nil)) (bi_min2 _ _)))) ?_
  refine ss_nx (s_asg (m_keep ev_con)) ?_
  refine ss_nx (s_for (i_keep (ev_rng ev_con (ev_bin (ev_bi (evs_cons (ev_var rfl) (evs_cons (ev_var rfl) evs_nil)) (bi_min2 _ _)) ev_con (b_add _ _)) (rng0 (by omega) (by omega))) rfl) hx) ?_
  refine ss_nx (s_asg (m_keep (ev_call rfl rfl (as_cons (ev_var rfl) (as_cons (ev_var rfl) as_nil)) cr))) ?_
  refine ss_nx (s_if (k := false) (t_keep (ev_as (ev_cmp (ev_var rfl) (ev_idx (ev_var rfl) ev_con ⟨rfl⟩) (r_neT (raw p) (raw p))) (by simp)) (t_b _)) (fun h => by cases h) fun _ => ss_nil) ?_
  refine ss_nx (s_asg (m_keep hcomp)) ?_
  exact ss_nx (s_if (k := false) (t_keep (ev_cmp (ev_call rfl rfl (as_cons (ev_var rfl) (as_cons (ev_var rfl) as_nil)) cl) hite (r_neM sl)) (t_b _)) (fun h => by cases h) fun _ => ss_nil) ss_nil

def bAt : List MS := [.asg 4 0 (.keep []) (.bin .add (.var 4) (.con (.int 1))),
        .ife (.keep []) (.cmp .eq (.bin .mod (.bi .int [(.var 4)]) (.con (.int 40))) (.var 3)) [
          .asg 8 0 (.keep []) (.tup [(.var 5), (.var 6), (.var 7)]),
          .for (.nm 9) (.keep []) (.rng (.con (.int 0)) (.bin .add (.bin .add (.bin .add (.var 5) (.var 6)) (.var 7)) (.con (.int 2)))) bS] []]
/-- a frame of the law, the rest of it whatever it is -/
def isL (sc rw_ : D) (pt : Int) (q5 q6 q7 : Option Slot) (r : Env) : Prop := ∃ nb p5 p6 p7 q8 q9 q10 q11 q12 q13 q14 q15 q16 q17 q18 q19 q20 q21 q22, r = eL sc rw_ pt nb p5 p6 p7 q8 q9 q10 q11 q12 q13 q14 q15 q16 q17 q18 q19 q20 q21 q22 ∧ (∀ s, q5 = some s → p5 = s) ∧ (∀ s, q6 = some s → p6 = s) ∧ ∀ s, q7 = some s → p7 = s
theorem at_run (n : Nat) (sc rw_ : D) (pt nb : Int) (a b cc : Nat) (ha : a ≤ 6) (hb : b ≤ 6) (hc : cc ≤ 6) (hk : ∀ s < a + b + cc + 2, chk a b cc s = true) (q8 q9 q10 q11 q12 q13 q14 q15 q16 q17 q18 q19 q20 q21 q22 : Slot) :
    ∃ r', StS tab (callF tab (n + 5)) (eL sc rw_ pt nb (.val (.int (a : Nat))) (.val (.int (b : Nat))) (.val (.int (cc : Nat))) q8 q9 q10 q11 q12 q13 q14 q15 q16 q17 q18 q19 q20 q21 q22) bAt .nx r' ∧ isL sc rw_ pt (some (.val (.int (a : Nat)))) (some (.val (.int (b : Nat)))) none r' := by
  by_cases hp : (nb + 1) % 40 = pt
  · obtain ⟨r', e, h⟩ := loop_inv (f := fun v rr => match asgG (.nm 9) v rr with
        | none => .bad
        | some r2 => evSs tab (callF tab (n + 5)) bS r2)
      (fun j r => j ≤ a + b + cc + 2 ∧ ∃ q9 q10 q11 q12 q13 q14 q15 q16 q17 q18 q19 q20 q21 q22, r = eL sc rw_ pt (nb + 1) (.val (.int (a : Nat))) (.val (.int (b : Nat))) (.val (.int (cc : Nat))) (.val (ti (a, b, cc))) q9 q10 q11 q12 q13 q14 q15 q16 q17 q18 q19 q20 q21 q22)
      ((List.range ((a : Int) + b + cc + 2).toNat).map fun k => .int ((k : Nat) : Int)) 0 _ ⟨Nat.zero_le _, q9, q10, q11, q12, q13, q14, q15, q16, q17, q18, q19, q20, q21, q22, rfl⟩ (fun i v r hi ⟨hj, q9, q10, q11, q12, q13, q14, q15, q16, q17, q18, q19, q20, q21, q22, hr⟩ => by
        subst hr
        rw [List.getElem?_map] at hi
        obtain ⟨k, hk', rfl⟩ := Option.map_eq_some_iff.mp hi
        have hi' : i < ((a : Int) + b + cc + 2).toNat := by
          have := (List.getElem?_eq_some_iff.mp hk').1
          simpa using this
        have ek : k = i := by
          rw [List.getElem?_range hi'] at hk'
          exact (Option.some.inj hk').symm
        subst ek
        obtain ⟨q10', q11', q12', q13', q14', q15', q16', q17', q18', q19', q20', q21', hs⟩ := s_run n sc rw_ pt (nb + 1) a b cc k ha hb hc (by omega) (hk k (by omega)) q10 q11 q12 q13 q14 q15 q16 q17 q18 q19 q20 q21 q22
        exact ⟨_, .inl hs, by omega, _, _, _, _, _, _, _, _, _, _, _, _, _, _, rfl⟩)
    obtain ⟨_, q9', q10', q11', q12', q13', q14', q15', q16', q17', q18', q19', q20', q21', q22', hr⟩ := h
    subst hr
    refine ⟨eL sc rw_ pt (nb + 1) (.val (.int (a : Nat))) (.val (.int (b : Nat))) (.val (.int (cc : Nat))) (.val (ti (a, b, cc))) q9' q10' q11' q12' q13' q14' q15' q16' q17' q18' q19' q20' q21' q22', ss_nx (s_asg (m_keep (ev_bin (ev_var rfl) ev_con (b_add _ _)))) (ss_nx (s_if (k := true) (t_keep (ev_as (ev_cmp (ev_bin (ev_bi (evs_cons (ev_var rfl) evs_nil) (bi_int _)) ev_con (b_mod _ _ (by decide))) (ev_var rfl) (r_eq _ _)) (by rw [decide_eq_true hp])) (t_b _)) (fun _ => ?_) fun h => by cases h) ss_nil), ⟨nb + 1, _, _, _, _, _, _, _, _, _, _, _, _, _, _, _, _, _, _, rfl, fun s h => (Option.some.inj h), fun s h => (Option.some.inj h), fun s h => by cases h⟩⟩
    refine ss_nx (s_asg (m_keep (ev_tup (evs_cons (ev_var rfl) (evs_cons (ev_var rfl) (evs_cons (ev_var rfl) evs_nil))) (by show 3 ≤ LIM; decide)))) ?_
    exact ss_nx (s_for (i_keep (ev_rng ev_con (ev_bin (ev_bin (ev_bin (ev_var rfl) (ev_var rfl) (b_add _ _)) (ev_var rfl) (b_add _ _)) ev_con (b_add _ _)) (rng0 (by omega) (by omega))) rfl) e) ss_nil
  · exact ⟨eL sc rw_ pt (nb + 1) (.val (.int (a : Nat))) (.val (.int (b : Nat))) (.val (.int (cc : Nat))) q8 q9 q10 q11 q12 q13 q14 q15 q16 q17 q18 q19 q20 q21 q22, ss_nx (s_asg (m_keep (ev_bin (ev_var rfl) ev_con (b_add _ _)))) (ss_nx (s_if (k := false) (t_keep (ev_as (ev_cmp (ev_bin (ev_bi (evs_cons (ev_var rfl) evs_nil) (bi_int _)) ev_con (b_mod _ _ (by decide))) (ev_var rfl) (r_eq _ _)) (by rw [decide_eq_false hp])) (t_b _)) (fun h => by cases h) fun _ => ss_nil) ss_nil), ⟨nb + 1, _, _, _, _, _, _, _, _, _, _, _, _, _, _, _, _, _, _, rfl, fun s h => (Option.some.inj h), fun s h => (Option.some.inj h), fun s h => by cases h⟩⟩
theorem r7 : rngD (.int 0) (.int 7) = some (.list ((List.range 7).map fun k => .int ((k : Nat) : Int))) := by
  rw [rng_eq' (by decide) (by decide) (by decide) (by decide)]; simp
/-- a loop of seven whose turns keep such a frame -/
theorem seven {T : Nat → Option Fn} {c : Nat → List D → OutC} (body : List MS) (j : Nat) (I : Env → Prop) (r : Env) (h0 : I r) (hs : ∀ (k : Nat) (r : Env), k < 7 → I r → ∃ r', evSs T c body (r.set j (.val (.int (k : Nat)))) = .ok .nx r' ∧ I r') :
    ∃ r', evS T c (.for (.nm j) (.keep []) (.rng (.con (.int 0)) (.con (.int 7))) body) r = .ok .nx r' ∧ I r' := by
  obtain ⟨r', e, h⟩ := loop_inv (f := fun v rr => match asgG (.nm j) v rr with
        | none => .bad
        | some r2 => evSs T c body r2) (fun _ r => I r) ((List.range 7).map fun k => .int ((k : Nat) : Int)) 0 r h0 (fun i v r hi hI => by
      rw [List.getElem?_map] at hi
      obtain ⟨k, hk, rfl⟩ := Option.map_eq_some_iff.mp hi
      obtain ⟨r', e, h⟩ := hs k r (List.mem_range.mp (List.mem_of_getElem? hk)) hI
      exact ⟨r', .inl e, h⟩)
  exact ⟨r', s_for (i_keep (ev_rng ev_con ev_con r7) rfl) e, h⟩
end Cw
end

section
namespace Cw
open PySem
theorem isL_mono {sc rw_ : D} {pt : Int} {q5 q6 q7 : Option Slot} {r : Env} (h : isL sc rw_ pt q5 q6 q7 r) {p5 p6 p7 : Option Slot} (h5 : p5 = none ∨ p5 = q5) (h6 : p6 = none ∨ p6 = q6) (h7 : p7 = none ∨ p7 = q7) : isL sc rw_ pt p5 p6 p7 r := by
  obtain ⟨nb, a5, a6, a7, q8, q9, q10, q11, q12, q13, q14, q15, q16, q17, q18, q19, q20, q21, q22, hr, e5, e6, e7⟩ := h
  refine ⟨nb, a5, a6, a7, q8, q9, q10, q11, q12, q13, q14, q15, q16, q17, q18, q19, q20, q21, q22, hr, fun s h => ?_, fun s h => ?_, fun s h => ?_⟩
  · rcases h5 with z | z
    · rw [z] at h; cases h
    · exact e5 s (z ▸ h)
  · rcases h6 with z | z
    · rw [z] at h; cases h
    · exact e6 s (z ▸ h)
  · rcases h7 with z | z
    · rw [z] at h; cases h
    · exact e7 s (z ▸ h)
theorem isL_5 {sc rw_ : D} {pt : Int} {r : Env} (h : isL sc rw_ pt none none none r) (v : Slot) : isL sc rw_ pt (some v) none none (r.set 5 v) := by
  obtain ⟨nb, a5, a6, a7, q8, q9, q10, q11, q12, q13, q14, q15, q16, q17, q18, q19, q20, q21, q22, rfl, e5, e6, e7⟩ := h
  exact ⟨nb, v, a6, a7, q8, q9, q10, q11, q12, q13, q14, q15, q16, q17, q18, q19, q20, q21, q22, rfl, fun s h => Option.some.inj h, e6, e7⟩
theorem isL_6 {sc rw_ : D} {pt : Int} {r : Env} {u : Slot} (h : isL sc rw_ pt (some u) none none r) (v : Slot) : isL sc rw_ pt (some u) (some v) none (r.set 6 v) := by
  obtain ⟨nb, a5, a6, a7, q8, q9, q10, q11, q12, q13, q14, q15, q16, q17, q18, q19, q20, q21, q22, rfl, e5, e6, e7⟩ := h
  exact ⟨nb, a5, v, a7, q8, q9, q10, q11, q12, q13, q14, q15, q16, q17, q18, q19, q20, q21, q22, rfl, e5, fun s h => Option.some.inj h, e7⟩
theorem all_chk : ((List.range 7).all fun a => (List.range 7).all fun b => chkC a b) = true := by decide +kernel
theorem chk_all {a b cc s : Nat} (ha : a < 7) (hb : b < 7) (hc : cc < 7) (hs : s < a + b + cc + 2) : chk a b cc s = true := by
  have h := all_chk
  rw [List.all_eq_true] at h
  have h1 := h a (List.mem_range.mpr ha)
  rw [List.all_eq_true] at h1
  have h2 := h1 b (List.mem_range.mpr hb)
  unfold chkC at h2
  rw [List.all_eq_true] at h2
  have h3 := h2 cc (List.mem_range.mpr hc)
  rw [List.all_eq_true] at h3
  exact h3 s (List.mem_range.mpr hs)
theorem loops (n : Nat) (sc rw_ : D) (pt : Int) (r : Env) (h0 : isL sc rw_ pt none none none r) : ∃ r', evS tab (callF tab (n + 5)) (.for (.nm 5) (.keep []) (.rng (.con (.int 0)) (.con (.int 7))) [
    .for (.nm 6) (.keep []) (.rng (.con (.int 0)) (.con (.int 7))) [
      .for (.nm 7) (.keep []) (.rng (.con (.int 0)) (.con (.int 7))) bAt]]) r = .ok .nx r' ∧ isL sc rw_ pt none none none r' := by
  refine seven _ 5 (isL sc rw_ pt none none none) r h0 fun a r ha hI => ?_
  obtain ⟨r1, e1, h1⟩ := seven (T := tab) (c := callF tab (n + 5)) [.for (.nm 7) (.keep []) (.rng (.con (.int 0)) (.con (.int 7))) bAt] 6 (isL sc rw_ pt (some (.val (.int (a : Nat)))) none none) _ (isL_5 hI (.val (.int (a : Nat)))) fun b r hb hI => by
    obtain ⟨r2, e2, h2⟩ := seven (T := tab) (c := callF tab (n + 5)) bAt 7 (isL sc rw_ pt (some (.val (.int (a : Nat)))) (some (.val (.int (b : Nat)))) none) _ (isL_6 hI (.val (.int (b : Nat)))) fun cc r hc hI => by
      obtain ⟨nb, a5, a6, a7, q8, q9, q10, q11, q12, q13, q14, q15, q16, q17, q18, q19, q20, q21, q22, rfl, e5, e6, e7⟩ := hI
      have z5 := e5 _ rfl
      have z6 := e6 _ rfl
      subst z5 z6
      exact at_run n sc rw_ pt nb a b cc (by omega) (by omega) (by omega) (fun s hs => chk_all ha hb hc hs) q8 q9 q10 q11 q12 q13 q14 q15 q16 q17 q18 q19 q20 q21 q22
    exact ⟨r2, ss_nx e2 ss_nil, isL_mono h2 (.inr rfl) (.inl rfl) (.inl rfl)⟩
  exact ⟨r1, ss_nx e1 ss_nil, isL_mono h1 (.inl rfl) (.inl rfl) (.inl rfl)⟩
theorem plain69 (ns : List Int) (hl : ns.length ≤ 63) : callF tab 60 f_law [.list (ns.map .int)] = .ok (.bool true) [] := by
  obtain ⟨row, h1, h2, hn⟩ := c_numbers 58 ns hl
  have ht := c_take 57 row h1 0 40 (by decide)
  generalize hsc : PyData.list (ns.map PyData.int) = sc at *
  generalize hrw : PyData.list (row.map PyData.int) = rw_ at *
  obtain ⟨r', e, _⟩ := loops 54 sc rw_ (drw row 0 40) (eL sc rw_ (drw row 0 40) 0 .non .non .non .non .non .non .non .non .non .non .non .non .non .non .non .non .non .non) ⟨0, _, _, _, _, _, _, _, _, _, _, _, _, _, _, _, _, _, _, rfl, nofun, nofun, nofun⟩
  refine (call_ret (n := 59) (kk := 0) (r' := r') rfl rfl rfl ?_ rfl).h
  refine ss_nx (s_asg (m_keep (ev_call rfl rfl (as_cons (ev_var rfl) as_nil) hn))) ?_
  refine ss_nx (s_asg (kk := 1) (d := .list [.int 0]) (m_keep (ev_lst (evs_cons ev_con evs_nil) (by decide)))) ?_
  refine ss_nx (s_asg (d := .int (drw row 0 40)) (r' := [.val sc, .val rw_, .own 1 (.list [.int 1]), .non, .non, .non, .non, .non, .non, .non, .non, .non, .non, .non, .non, .non, .non, .non, .non, .non, .non, .non, .non]) ?_) ?_
  · have hc : callF tab 59 17 [rw_, .list [.int 0], .int 40] = .ok (.int (drw row 0 40)) [.list [.int 1]] := ht
    have e2 : evE tab (callF tab 59) (.call 17 [(.var 1), (.var 2), (.con (.int 40))]) [.val sc, .val rw_, .own 1 (.list [.int 0]), .non, .non, .non, .non, .non, .non, .non, .non, .non, .non, .non, .non, .non, .non, .non, .non, .non, .non, .non, .non] = (match callF tab 59 17 [rw_, .list [.int 0], .int 40] with
      | .ok d os => if os.length = [2].length then Out.ok d (putMs [.val sc, .val rw_, .own 1 (.list [.int 0]), .non, .non, .non, .non, .non, .non, .non, .non, .non, .non, .non, .non, .non, .non, .non, .non, .non, .non, .non, .non] [2] os) else .bad
      | .exc x os => if os.length = [2].length then Out.exc x (putMs [.val sc, .val rw_, .own 1 (.list [.int 0]), .non, .non, .non, .non, .non, .non, .non, .non, .non, .non, .non, .non, .non, .non, .non, .non, .non, .non, .non, .non] [2] os) else .bad
      | .bad => .bad) := rfl
    show (evE tab (callF tab 59) (.call 17 [(.var 1), (.var 2), (.con (.int 40))]) [.val sc, .val rw_, .own 1 (.list [.int 0]), .non, .non, .non, .non, .non, .non, .non, .non, .non, .non, .non, .non, .non, .non, .non, .non, .non, .non, .non, .non]).bind _ = _
    rw [e2, hc]
    rfl
  refine ss_nx (s_asg (m_keep ev_con)) ?_
  exact ss_nx e (ss_ret (s_ret (m_keep ev_con)))
end Cw
end
open PySem
theorem PySem.Challenge.cw_cornwright_k69_all_small_famines_holds : PySem.Challenge.rw_cornwright_k69_all_small_famines.Holds := by
  exact law_holds Cw.plain69
