import PyProof.Rows.All
import Wide.All
import OpenK.AllK
import Wide.FinOn
import HandS.ForMost
import HandS.Flow
import HandS.TupAny
import HandS.TupMul
import HandS.Conv
import HandS.IsInst
import HandS.Deep
import HandS.Defaults
import HandS.HeadEnd
import HandS.HeadHook2
import KE.KStateDown
import HandS.Head0
import HandS.Head1
import HandS.Head2
import PySem.Challenge.RW_sealedlink_k93_links_and_the_worst_wait
set_option Elab.async false
set_option linter.all false
set_option maxRecDepth 100000
set_option maxHeartbeats 4000000
/-! EvA: an own small syntax (E, S), its values and its semantics in plain Lean. -/
namespace Pv
open PySem L2

/-- a value: data that is never changed (a list too, once it is shared), or a list that one slot alone has -/
inductive D where
  | p (x : PyData)
  | own (xs : List PyData)
abbrev EV := List (Option D)
def D.toP : D → PyData
  | .p x => x
  | .own xs => .list xs

/-! ### operations on data -/
inductive Bop where | add | sub | mul | fdiv | mod | pow
inductive Cop where | eq | ne | lt | le | gt | ge | isN | notN | isin | notin
inductive Blt where | len | tuple | list | abs | int | sum | max | min | any | all
inductive Ty where | tuple | list | bool | int | str
inductive Mth where | append | pop | popAt | extend

def inR (i : Int) : Bool := decide (-(2 ^ 64) < i) && decide (i < 2 ^ 64)
def fits (n : Nat) : Bool := decide (n ≤ sizeLine)
def okDiv (j : Int) : Bool := decide (j ≠ 0) && decide (j.natAbs < 1073741824)
def okPow (i j : Int) : Bool := decide (0 ≤ j) && (decide (j ≤ 1000000) && decide (i.natAbs < 2 ^ 64))
def okRep (n : Nat) (k : Int) : Bool := decide (-(2 ^ 63) ≤ k) && (decide (k < 2 ^ 63) && decide (n * k.toNat ≤ sizeLine))

def binS : Bop → PyData → PyData → Option D
  | .add, .int i, .int j => some (.p (.int (i + j)))
  | .add, .str x, .str y => if fits (x.length + y.length) = true then some (.p (.str (x ++ y))) else none
  | .add, .tuple xs, .tuple ys => if fits (xs.length + ys.length) = true then some (.p (.tuple (xs ++ ys))) else none
  | .add, .list xs, .list ys => if fits (xs.length + ys.length) = true then some (.own (xs ++ ys)) else none
  | .sub, .int i, .int j => some (.p (.int (i - j)))
  | .mul, .int i, .int j => if (inR i || inR j) = true then some (.p (.int (i * j))) else none
  | .fdiv, .int i, .int j => if okDiv j = true then some (.p (.int (i.fdiv j))) else none
  | .mod, .int i, .int j => if decide (j ≠ 0) = true then some (.p (.int (i.fmod j))) else none
  | .pow, .int i, .int j => if okPow i j = true then some (.p (.int (i ^ j.toNat))) else none
  | _, _, _ => none

def flatP : PyData → Bool
  | .none => true
  | .bool _ => true
  | .int _ => true
  | .str _ => true
  | _ => false
def inS (x : PyData) (ys : List PyData) : Option Bool :=
  if (flatP x && ys.all flatP) = true then some (ys.any fun y => PyData.eqv y x) else none
def eqS : PyData → PyData → Option Bool
  | .int i, .int j => some (decide (i = j))
  | .bool i, .bool j => some (decide (i = j))
  | .str i, .str j => some (decide (i = j))
  | .none, .none => some true
  | x, y => if (SeqAt.shaped x && SeqAt.shaped y) = true then some (PyData.eqv x y) else none
def cmpS : Cop → PyData → PyData → Option Bool
  | .eq, x, y => eqS x y
  | .ne, x, y => (eqS x y).map (!·)
  | .lt, .int i, .int j => some (decide (i < j))
  | .le, .int i, .int j => some (decide (i ≤ j))
  | .gt, .int i, .int j => some (decide (j < i))
  | .ge, .int i, .int j => some (decide (j ≤ i))
  | .isN, x, .none => (match x with | .none => some true | .dict _ => none | _ => some false)
  | .notN, x, .none => (match x with | .none => some false | .dict _ => none | _ => some true)
  | .isin, x, .list ys => inS x ys
  | .isin, x, .tuple ys => inS x ys
  | .notin, x, .list ys => (inS x ys).map (!·)
  | .notin, x, .tuple ys => (inS x ys).map (!·)
  | _, _, _ => none
def truthS : PyData → Option Bool
  | .none => some false
  | .bool b => some b
  | .int i => some (i != 0)
  | .str y => if fits y.length = true then some ((y.length : Int) != 0) else none
  | .list xs => some (!xs.isEmpty)
  | .tuple xs => some (!xs.isEmpty)
  | .dict _ => none
def negS : PyData → Option D
  | .int i => some (.p (.int (-i)))
  | _ => none
def ixS : PyData → PyData → Option PyData
  | .list xs, .int i => atI xs i
  | .tuple xs, .int i => atI xs i
  | .str z, .int i => if fits z.length = true then (atI z.cps.toList i).map fun c => .str ⟨#[c]⟩ else none
  | _, _ => none
def cutS (xs : List PyData) (lo hi : Option Int) : List PyData := (xs.drop (HT.sIx xs.length 0 lo)).take (HT.sIx xs.length xs.length hi - HT.sIx xs.length 0 lo)
def slS : PyData → Option Int → Option Int → Option D
  | .list xs, lo, hi => some (.own (cutS xs lo hi))
  | .tuple xs, lo, hi => some (.p (.tuple (cutS xs lo hi)))
  | _, _, _ => none
def intsOf : List PyData → Option (List Int)
  | [] => some []
  | .int i :: r => (intsOf r).map (i :: ·)
  | _ :: _ => none
def boolsOf : List PyData → Option (List Bool)
  | [] => some []
  | .bool i :: r => (boolsOf r).map (i :: ·)
  | _ :: _ => none
def maxL : Int → List Int → Int
  | m, [] => m
  | m, x :: r => maxL (if x > m then x else m) r
def minL : Int → List Int → Int
  | m, [] => m
  | m, x :: r => minL (if x < m then x else m) r
def bltS : Blt → List PyData → Option D
  | .len, [.list xs] => some (.p (.int xs.length))
  | .len, [.tuple xs] => some (.p (.int xs.length))
  | .len, [.str x] => if fits x.length = true then some (.p (.int x.length)) else none
  | .tuple, [.list xs] => some (.p (.tuple xs))
  | .tuple, [.tuple xs] => some (.p (.tuple xs))
  | .list, [.list xs] => some (.own xs)
  | .list, [.tuple xs] => some (.own xs)
  | .abs, [.int i] => some (.p (.int (if i < 0 then -i else i)))
  | .int, [.int i] => some (.p (.int i))
  | .int, [.bool b] => some (.p (.int (if b then 1 else 0)))
  | .sum, [.list xs] => (intsOf xs).map fun ns => .p (.int ns.sum)
  | .max, [.int i, .int j] => some (.p (.int (if j > i then j else i)))
  | .min, [.int i, .int j] => some (.p (.int (if j < i then j else i)))
  | .max, [.list xs] => (match intsOf xs with | some (m :: r) => some (.p (.int (maxL m r))) | _ => none)
  | .min, [.list xs] => (match intsOf xs with | some (m :: r) => some (.p (.int (minL m r))) | _ => none)
  | .any, [.list xs] => (boolsOf xs).map fun bs => .p (.bool (bs.any id))
  | .all, [.list xs] => (boolsOf xs).map fun bs => .p (.bool (bs.all id))
  | _, _ => none
def tyName : PyData → String
  | .none => "NoneType"
  | .bool _ => "bool"
  | .int _ => "int"
  | .str _ => "str"
  | .list _ => "list"
  | .tuple _ => "tuple"
  | .dict _ => "dict"
def Ty.name : Ty → String
  | .tuple => "tuple"
  | .list => "list"
  | .bool => "bool"
  | .int => "int"
  | .str => "str"
def isiS : Ty → PyData → Option Bool
  | .tuple, .tuple _ => some true
  | .list, .list _ => some true
  | .bool, .bool _ => some true
  | .int, .bool _ => some true
  | .int, .int _ => some true
  | .str, .str _ => some true
  | _, .dict _ => none
  | _, _ => some false
def okRng (a b : Int) : Bool := decide (-(2 ^ 62) ≤ a) && (decide (a < 2 ^ 62) && (decide (-(2 ^ 62) ≤ b) && (decide (b < 2 ^ 62) && decide ((b - a).toNat ≤ 2 ^ 24))))
def rngL (a b : Int) : List PyData := (List.range (b - a).toNat).map fun i => .int (a + (i : Nat))
def rngS : List PyData → Option (List PyData)
  | [.int b] => if okRng 0 b = true then some (rngL 0 b) else none
  | [.int a, .int b] => if okRng a b = true then some (rngL a b) else none
  | _ => none
/-- a method that changes the list: its answer, the list behind it -/
def mthS : Mth → List PyData → List PyData → Option (PyData × List PyData)
  | .append, xs, [y] => if decide (xs.length < sizeLine) = true then some (.none, xs ++ [y]) else none
  | .pop, xs, [] => (xs[xs.length - 1]?).map fun y => (y, xs.dropLast)
  | .popAt, xs, [.int i] => if (decide (-(2 ^ 63) ≤ i) && decide (i < 2 ^ 63)) = true then (ixN xs.length i).bind fun k => (xs[k]?).map fun y => (y, xs.eraseIdx k) else none
  | .extend, xs, [.list ys] => if fits (xs.length + ys.length) = true then some (.none, xs ++ ys) else none
  | _, _, _ => none

/-! ### the syntax -/
inductive Tg where | nm (i : Nat) | tp (is : List Nat)
inductive It where | seq | rng1 | rng2
inductive E where
  | con (c : PyData)
  | glob (k : Nat)
  | var (i : Nat)
  | mov (i : Nat)
  | bin (o : Bop) (a b : E)
  | neg (a : E)
  | nt (a : E)
  | cmp (o : Cop) (a b : E)
  | chain (o o' : Cop) (a b c : E)
  | andE (a b : E)
  | orE (a b : E)
  | ife (t a b : E)
  | tup (es : E)
  | lst (es : E)
  | nil
  | cons (e es : E)
  | ix (a i : E)
  | sl (a lo hi : E)
  | blt (b : Blt) (es : E)
  | lrg1 (a : E)
  | lrg2 (a b : E)
  | isi (T : Ty) (a : E)
  | call (f : Nat) (es : E)
  | meth (m : Mth) (i : Nat) (es : E)
  | lc (tg : Tg) (it : It) (src ifs elt : E) (own : List (Str × Nat))

inductive S where
  | skip
  | set (i : Nat) (e : E)
  | unp (is : List Nat) (e : E)
  | par (i j : Nat) (a b : E)
  | stx (i : Nat) (ie e : E)
  | aug (i : Nat) (o : Bop) (e : E)
  | exp (e : E)
  | ret (e : E)
  | retN
  | ite (t : E) (a b : S)
  | for_ (tg : Tg) (it : It) (src : E) (body : S)
  | whl (n : Nat) (t : E) (body : S)
  | brk
  | cnt
  | done
  | seq (a b : S)

/-! ### the semantics -/
/-- an operand: a value, or a slot that is looked up when it is used -/
inductive Opd where | v (x : PyData) | s (i : Nat)
def rdO (ρ : EV) : Opd → Option PyData
  | .v x => some x
  | .s i => (match ρ[i]? with
    | some (some d) => some d.toP
    | _ => none)
def rdOs (ρ : EV) : List Opd → Option (List PyData)
  | [] => some []
  | o :: os => (rdO ρ o).bind fun x => (rdOs ρ os).map (x :: ·)
def frz (ρ : EV) (i : Nat) : Option (PyData × EV) := match ρ[i]? with
  | some (some (.p x)) => some (x, ρ)
  | some (some (.own xs)) => some (.list xs, ρ.set i (some (.p (.list xs))))
  | _ => none
def take (ρ : EV) (i : Nat) : Option (D × EV) := match ρ[i]? with
  | some (some (.p x)) => some (.p x, ρ)
  | some (some (.own xs)) => some (.own xs, ρ.set i none)
  | _ => none
def opV (ρ : EV) (i : Nat) : Option (Opd × EV) := match ρ[i]? with
  | some (some _) => some (.s i, ρ)
  | _ => none
def wipeV (ρ : EV) : List Nat → EV
  | [] => ρ
  | v :: vs => (wipeV ρ vs).set v none
/-- the slots vs as they stand in ρ0 -/
def backV (ρ0 ρ : EV) : List Nat → EV
  | [] => ρ
  | v :: vs => (match ρ0[v]? with
    | some o => (backV ρ0 ρ vs).set v o
    | none => backV ρ0 ρ vs)
def asgNames (ρ : EV) : List Nat → List PyData → Option EV
  | [], [] => some ρ
  | i :: is, x :: xs => asgNames (ρ.set i (some (.p x))) is xs
  | _, _ => none
def asgT (ρ : EV) : Tg → PyData → Option EV
  | .nm i, x => some (ρ.set i (some (.p x)))
  | .tp is, .tuple xs => asgNames ρ is xs
  | _, _ => none
def itemsOf (it : It) (xs : List PyData) : Option (List PyData) := match it, xs with
  | .seq, [.list ys] => some ys
  | .seq, [.tuple ys] => some ys
  | .rng1, [.int b] => if (decide (-(2 ^ 62) ≤ b) && decide (b < 2 ^ 62)) = true then some (rngL 0 b) else none
  | .rng2, [.int a, .int b] => if (decide (-(2 ^ 62) ≤ a) && (decide (a < 2 ^ 62) && (decide (-(2 ^ 62) ≤ b) && decide (b < 2 ^ 62)))) = true then some (rngL a b) else none
  | _, _ => none
/-- a comprehension's loop -/
def lcL (tgt : EV → PyData → Option EV) (tst : EV → Option (Bool × EV)) (elt : EV → Option (PyData × EV)) (wip : EV → EV) : List PyData → List PyData → EV → Option (List PyData × EV)
  | [], acc, ρ => some (acc, ρ)
  | x :: r, acc, ρ => (tgt (wip ρ) x).bind fun ρ1 => (tst ρ1).bind fun (b, ρ2) => if b = true then (elt ρ2).bind fun (y, ρ3) => if decide (acc.length < sizeLine) = true then lcL tgt tst elt wip r (acc ++ [y]) ρ3 else none else lcL tgt tst elt wip r acc ρ2

abbrev Fns := Nat → List D → Option (D × List D)
/-- what is given to a call: the argument's value; a list that a slot has goes as it is -/
def argD (ρ : EV) : Opd → Option D
  | .v x => some (.p x)
  | .s i => (match ρ[i]? with
    | some (some d) => some d
    | _ => none)
def argDs (ρ : EV) : List Opd → Option (List D)
  | [] => some []
  | o :: os => (argD ρ o).bind fun x => (argDs ρ os).map (x :: ·)
/-- the slots that are lent -/
def lent (ρ : EV) : List Opd → List Nat
  | [] => []
  | .v _ :: os => lent ρ os
  | .s i :: os => (match ρ[i]? with
    | some (some (.own _)) => i :: lent ρ os
    | _ => lent ρ os)
def nodupN : List Nat → Bool
  | [] => true
  | i :: is => !is.contains i && nodupN is
/-- behind the call -/
def backD (ρ : EV) : List Opd → List D → EV
  | .s i :: os, d :: ds => (match ρ[i]? with
    | some (some (.own _)) => (backD ρ os ds).set i (some d)
    | _ => backD ρ os ds)
  | .v _ :: os, _ :: ds => backD ρ os ds
  | _, _ => ρ
def callS (C : Fns) (f : Nat) (os : List Opd) (ρ : EV) : Option (D × EV) :=
  (argDs ρ os).bind fun ds => if nodupN (lent ρ os) = true then (C f ds).bind fun (d, ds') => if decide (ds'.length = ds.length) = true then some (d, backD ρ os ds') else none else none

structure M where
  v : EV → Option (D × EV)
  t : EV → Option (Bool × EV)
  o : EV → Option (Opd × EV)
  l : EV → Option (List Opd × EV)
  ps : EV → Option (List PyData × EV)
  /-- absent part of a slice, absent test -/
  isNil : Bool
def M.p (m : M) (ρ : EV) : Option (PyData × EV) := (m.v ρ).map fun (d, ρ') => (d.toP, ρ')
def tOfV (v : EV → Option (D × EV)) (ρ : EV) : Option (Bool × EV) := (v ρ).bind fun (d, ρ') => (truthS d.toP).map fun b => (b, ρ')
def oOfV (v : EV → Option (D × EV)) (ρ : EV) : Option (Opd × EV) := (v ρ).map fun (d, ρ') => (.v d.toP, ρ')
def mkV (v : EV → Option (D × EV)) : M := ⟨v, tOfV v, oOfV v, fun _ => none, fun _ => none, false⟩
def vOfT (t : EV → Option (Bool × EV)) (ρ : EV) : Option (D × EV) := (t ρ).map fun (b, ρ') => (.p (.bool b), ρ')

section
variable (C : Fns) (G : List (Str × PyData))
def bin2 (f : PyData → PyData → Option D) (a b : EV → Option (Opd × EV)) (ρ : EV) : Option (D × EV) :=
  (a ρ).bind fun (x, ρ1) => (b ρ1).bind fun (y, ρ2) => (rdO ρ2 x).bind fun px => (rdO ρ2 y).bind fun py => (f px py).map fun d => (d, ρ2)
def cmp2 (f : PyData → PyData → Option Bool) (a b : EV → Option (Opd × EV)) (ρ : EV) : Option (Bool × EV) :=
  (a ρ).bind fun (x, ρ1) => (b ρ1).bind fun (y, ρ2) => (rdO ρ2 x).bind fun px => (rdO ρ2 y).bind fun py => (f px py).map fun d => (d, ρ2)
def chain3 (f g : PyData → PyData → Option Bool) (a b c : EV → Option (Opd × EV)) (ρ : EV) : Option (Bool × EV) :=
  (a ρ).bind fun (x, ρ1) => (b ρ1).bind fun (y, ρ2) => (rdO ρ2 x).bind fun px => (rdO ρ2 y).bind fun py => (f px py).bind fun k =>
    if k = true then (c ρ2).bind fun (z, ρ3) => (rdO ρ3 y).bind fun py => (rdO ρ3 z).bind fun pz => (g py pz).map fun d => (d, ρ3) else some (false, ρ2)
def un1 (f : PyData → Option D) (a : EV → Option (Opd × EV)) (ρ : EV) : Option (D × EV) :=
  (a ρ).bind fun (x, ρ1) => (rdO ρ1 x).bind fun px => (f px).map fun d => (d, ρ1)
def lst1 (f : List PyData → Option D) (a : EV → Option (List Opd × EV)) (ρ : EV) : Option (D × EV) :=
  (a ρ).bind fun (x, ρ1) => (rdOs ρ1 x).bind fun px => (f px).map fun d => (d, ρ1)
def andV (a : EV → Option (PyData × EV)) (b : EV → Option (D × EV)) (ρ : EV) : Option (D × EV) :=
  (a ρ).bind fun (x, ρ1) => (truthS x).bind fun k => if k = true then b ρ1 else some (.p x, ρ1)
def orV (a : EV → Option (PyData × EV)) (b : EV → Option (D × EV)) (ρ : EV) : Option (D × EV) :=
  (a ρ).bind fun (x, ρ1) => (truthS x).bind fun k => if k = true then some (.p x, ρ1) else b ρ1
def andT (a b : EV → Option (Bool × EV)) (ρ : EV) : Option (Bool × EV) := (a ρ).bind fun (k, ρ1) => if k = true then b ρ1 else some (false, ρ1)
def orT (a b : EV → Option (Bool × EV)) (ρ : EV) : Option (Bool × EV) := (a ρ).bind fun (k, ρ1) => if k = true then some (true, ρ1) else b ρ1
def notT (a : EV → Option (Bool × EV)) (ρ : EV) : Option (Bool × EV) := (a ρ).map fun (k, ρ1) => (!k, ρ1)
def ifV (t : EV → Option (Bool × EV)) (a b : EV → Option (D × EV)) (ρ : EV) : Option (D × EV) := (t ρ).bind fun (k, ρ1) => if k = true then a ρ1 else b ρ1
def partI (m : M) (ρ : EV) : Option (Option Int × EV) := if m.isNil = true then some (none, ρ) else (m.v ρ).bind fun (d, ρ1) => match d with
  | .p (.int i) => some (some i, ρ1)
  | _ => none
def slV (a : EV → Option (Opd × EV)) (lo hi : M) (ρ : EV) : Option (D × EV) :=
  (a ρ).bind fun (x, ρ1) => (partI lo ρ1).bind fun (l, ρ2) => (partI hi ρ2).bind fun (h, ρ3) => (rdO ρ3 x).bind fun px => (slS px l h).map fun d => (d, ρ3)
def isOwn (ρ : EV) (i : Nat) : Bool := match ρ[i]? with
  | some (some (.own _)) => true
  | _ => false
def methV (m : Mth) (i : Nat) (a : EV → Option (List PyData × EV)) (ρ : EV) : Option (D × EV) :=
  if isOwn ρ i = true then (a ρ).bind fun (ys, ρ1) => match ρ1[i]? with
    | some (some (.own xs)) => (mthS m xs ys).map fun (y, xs') => (.p y, ρ1.set i (some (.own xs')))
    | _ => none
  else none
def callV (f : Nat) (a : EV → Option (List Opd × EV)) (ρ : EV) : Option (D × EV) := (a ρ).bind fun (os, ρ1) => callS C f os ρ1
def tst1 (m : M) (ρ : EV) : Option (Bool × EV) := if m.isNil = true then some (true, ρ) else m.t ρ
def lcV (tg : Tg) (it : It) (src : EV → Option (List PyData × EV)) (ifs : M) (elt : EV → Option (PyData × EV)) (own : List Nat) (ρ : EV) : Option (D × EV) :=
  (src ρ).bind fun (xs, ρ1) => (itemsOf it xs).bind fun items => (lcL (fun ρ x => asgT ρ tg x) (tst1 ifs) elt (fun ρ => wipeV ρ own) items [] ρ1).map fun (acc, ρ2) => (.own acc, backV ρ1 ρ2 own)

def ev : E → M
  | .con c => mkV fun ρ => some (.p c, ρ)
  | .glob k => mkV fun ρ => (G[k]?).map fun c => (.p c.2, ρ)
  | .var i => { mkV (fun ρ => (frz ρ i).map fun (x, ρ') => (.p x, ρ')) with o := fun ρ => opV ρ i }
  | .mov i => mkV fun ρ => take ρ i
  | .bin o a b => mkV (bin2 (binS o) (ev a).o (ev b).o)
  | .neg a => mkV (un1 negS (ev a).o)
  | .nt a => { mkV (vOfT (notT (tOfV (ev a).v))) with t := notT (ev a).t }
  | .cmp o a b => { mkV (vOfT (cmp2 (cmpS o) (ev a).o (ev b).o)) with t := cmp2 (cmpS o) (ev a).o (ev b).o }
  | .chain o o' a b c => { mkV (vOfT (chain3 (cmpS o) (cmpS o') (ev a).o (ev b).o (ev c).o)) with t := chain3 (cmpS o) (cmpS o') (ev a).o (ev b).o (ev c).o }
  | .andE a b => { mkV (andV (ev a).p (ev b).v) with t := andT (ev a).t (ev b).t }
  | .orE a b => { mkV (orV (ev a).p (ev b).v) with t := orT (ev a).t (ev b).t }
  | .ife t a b => { mkV (ifV (ev t).t (ev a).v (ev b).v) with t := fun _ => none }
  | .tup es => mkV fun ρ => ((ev es).ps ρ).bind fun (xs, ρ1) => if fits xs.length = true then some (.p (.tuple xs), ρ1) else none
  | .lst es => mkV fun ρ => ((ev es).ps ρ).bind fun (xs, ρ1) => if fits xs.length = true then some (.own xs, ρ1) else none
  | .nil => ⟨fun _ => none, fun _ => none, fun _ => none, fun ρ => some ([], ρ), fun ρ => some ([], ρ), true⟩
  | .cons e es => ⟨fun _ => none, fun _ => none, fun _ => none, fun ρ => ((ev e).o ρ).bind fun (o, ρ1) => ((ev es).l ρ1).map fun (os, ρ2) => (o :: os, ρ2),
      fun ρ => ((ev e).p ρ).bind fun (x, ρ1) => ((ev es).ps ρ1).map fun (xs, ρ2) => (x :: xs, ρ2), false⟩
  | .ix a i => mkV (bin2 (fun x y => (ixS x y).map .p) (ev a).o (ev i).o)
  | .sl a lo hi => mkV (slV (ev a).o (ev lo) (ev hi))
  | .blt b es => mkV (lst1 (bltS b) (ev es).l)
  | .lrg1 a => mkV (un1 (fun x => (rngS [x]).map .own) (ev a).o)
  | .lrg2 a b => mkV (bin2 (fun x y => (rngS [x, y]).map .own) (ev a).o (ev b).o)
  | .isi T a => mkV (un1 (fun x => (isiS T x).map fun b => .p (.bool b)) (ev a).o)
  | .call f es => mkV (callV C f (ev es).l)
  | .meth m i es => mkV (methV m i (ev es).ps)
  | .lc tg it src ifs elt own => mkV (lcV tg it (ev src).ps (ev ifs) (ev elt).p (own.map (·.2)))

/-! ### statements -/
inductive Out where
  | nx (ρ : EV)
  | ret (d : D) (ρ : EV)
  | bk (ρ : EV)
  | ct (ρ : EV)
def forL (tgt : EV → PyData → Option EV) (body : EV → Option Out) : List PyData → EV → Option Out
  | [], ρ => some (.nx ρ)
  | x :: r, ρ => (tgt ρ x).bind fun ρ1 => (body ρ1).bind fun o => match o with
    | .nx ρ2 => forL tgt body r ρ2
    | .ct ρ2 => forL tgt body r ρ2
    | .bk ρ2 => some (.nx ρ2)
    | .ret d ρ2 => some (.ret d ρ2)
def whlL (t : EV → Option (Bool × EV)) (body : EV → Option Out) : Nat → EV → Option Out
  | 0, _ => none
  | n + 1, ρ => (t ρ).bind fun (k, ρ1) => if k = true then (body ρ1).bind fun o => match o with
    | .nx ρ2 => whlL t body n ρ2
    | .ct ρ2 => whlL t body n ρ2
    | .bk ρ2 => some (.nx ρ2)
    | .ret d ρ2 => some (.ret d ρ2) else some (.nx ρ1)
def setItemS (xs : List PyData) (i : PyData) (x : PyData) : Option (List PyData) := match i with
  | .int k => (ixN xs.length k).map fun j => xs.set j x
  | _ => none
def augS : Bop → PyData → PyData → Option PyData
  | .add, .int x, .int y => some (.int (x + y))
  | .sub, .int x, .int y => some (.int (x - y))
  | _, _, _ => none
def ex : S → EV → Option Out
  | .skip => fun ρ => some (.nx ρ)
  | .set i e => fun ρ => ((ev C G e).v ρ).map fun (d, ρ1) => .nx (ρ1.set i (some d))
  | .unp is e => fun ρ => ((ev C G e).v ρ).bind fun (d, ρ1) => match d with
    | .p (.tuple xs) => (asgNames ρ1 is xs).map .nx
    | _ => none
  | .par i j a b => fun ρ => ((ev C G a).v ρ).bind fun (d, ρ1) => ((ev C G b).v ρ1).map fun (e, ρ2) => .nx ((ρ2.set i (some d)).set j (some e))
  | .stx i ie e => fun ρ => if isOwn ρ i = true then ((ev C G e).p ρ).bind fun (x, ρ1) => if isOwn ρ1 i = true then ((ev C G ie).p ρ1).bind fun (k, ρ2) => match ρ2[i]? with
    | some (some (.own xs)) => (setItemS xs k x).map fun ys => .nx (ρ2.set i (some (.own ys)))
    | _ => none
    else none else none
  | .aug i o e => fun ρ => match ρ[i]? with
    | some (some (.p x)) => ((ev C G e).p ρ).bind fun (y, ρ1) => (augS o x y).map fun z => .nx (ρ1.set i (some (.p z)))
    | _ => none
  | .exp e => fun ρ => ((ev C G e).v ρ).map fun (_, ρ1) => .nx ρ1
  | .ret e => fun ρ => ((ev C G e).v ρ).map fun (d, ρ1) => .ret d ρ1
  | .retN => fun ρ => some (.ret (.p .none) ρ)
  | .ite t a b => fun ρ => ((ev C G t).t ρ).bind fun (k, ρ1) => if k = true then ex a ρ1 else ex b ρ1
  | .for_ tg it src body => fun ρ => ((ev C G src).ps ρ).bind fun (xs, ρ1) => (itemsOf it xs).bind fun items => forL (fun ρ x => asgT ρ tg x) (ex body) items ρ1
  | .whl n t body => fun ρ => whlL (ev C G t).t (ex body) n ρ
  | .brk => fun ρ => some (.bk ρ)
  | .cnt => fun ρ => some (.ct ρ)
  | .done => fun ρ => some (.nx ρ)
  | .seq a b => fun ρ => (ex a ρ).bind fun o => match o with
    | .nx ρ1 => ex b ρ1
    | o => some o

/-! ### functions -/
structure FD where
  np : Nat
  ns : Nat
  /-- parameters that the body never stores to: lists may be lent at these alone -/
  lk : List Nat
  body : S
def startV (ns : Nat) (ds : List D) : EV := ds.map some ++ List.replicate (ns - ds.length) none
end
/-- behind a def's body: its answer, what its parameters' slots hold -/
def outS (np : Nat) (ds : List D) : Option Out → Option (D × List D)
  | some (.ret d ρ) => (mapOuts np ds ρ).map fun r => (d, r)
  | some (.nx ρ) => (mapOuts np ds ρ).map fun r => (.p .none, r)
  | _ => none
where
  /-- a list that was lent: as its slot has it now; else the argument as it was -/
  mapOuts : Nat → List D → EV → Option (List D)
  | _, [], _ => some []
  | 0, _ :: _, _ => none
  | n + 1, d :: ds, ρ => (match d, ρ with
    | .p x, _ :: r => (mapOuts n ds r).map (.p x :: ·)
    | .own _, some e :: r => (mapOuts n ds r).map (e :: ·)
    | _, _ => none)
def lkOk (lk : List Nat) : Nat → List D → Bool
  | _, [] => true
  | i, .p _ :: ds => lkOk lk (i + 1) ds
  | i, .own _ :: ds => lk.contains i && lkOk lk (i + 1) ds
def run (G : List (Str × PyData)) (F : List FD) : Nat → Fns
  | 0 => fun _ _ => none
  | k + 1 => fun f ds => (F[f]?).bind fun fd => if (decide (ds.length = fd.np) && lkOk fd.lk 0 ds) = true then outS fd.np ds (ex (run G F k) G fd.body (startV fd.ns ds)) else none
end Pv

set_option Elab.async false
set_option linter.all false
set_option maxRecDepth 100000
set_option maxHeartbeats 4000000
/-! EvB: how values stand in the heap; what an expression may change. -/
namespace Pv
open PySem PySem.Spec PyProof.Rows L2

/-- a list that is never changed: shared (in Z), known to the object (the script), or the module's -/
def SqZ (K : PySem.W.Frag) (Z : Addr → Prop) (H : Hp) (a : Addr) (xs : List V) : Prop := (Z a ∧ H a = some (.lst xs)) ∨ (∃ o, H a = some (.frz o (.lst xs))) ∨
  ∃ (o : Obj) (its : Array Value) (n : Nat), K.lookup a = some o ∧ o.cls = .type "list" ∧ o.dict = none ∧ o.data = .seq its n ∧ its.size ≤ sizeLine ∧ Vals xs its.toList
theorem SqZ.sq {K : PySem.W.Frag} {Z : Addr → Prop} {H : Hp} {a : Addr} {xs : List V} (h : SqZ K Z H a xs) : SqL K H a xs := by
  rcases h with h | ⟨o, h⟩ | h
  · exact .inl (.inl h.2)
  · exact .inl (.inr ⟨o, h⟩)
  · exact .inr h
mutual
inductive RP (K : PySem.W.Frag) (Z : Addr → Prop) (H : Hp) : V → PyData → Prop
  | non : RP K Z H .non .none
  | bl (b : Bool) : RP K Z H (.bl b) (.bool b)
  | int (i : Int) : RP K Z H (.int i) (.int i)
  | str (x : Str) : RP K Z H (.str x) (.str x)
  | lst {a : Addr} {vs : List V} {xs : List PyData} : SqZ K Z H a vs → RPs K Z H vs xs → RP K Z H (.ref a) (.list xs)
  | tup {a : Addr} {vs : List V} {xs : List PyData} : SqT K H a vs → RPs K Z H vs xs → RP K Z H (.ref a) (.tuple xs)
inductive RPs (K : PySem.W.Frag) (Z : Addr → Prop) (H : Hp) : List V → List PyData → Prop
  | nil : RPs K Z H [] []
  | cons {v : V} {vs : List V} {x : PyData} {xs : List PyData} : RP K Z H v x → RPs K Z H vs xs → RPs K Z H (v :: vs) (x :: xs)
end
def RD (K : PySem.W.Frag) (Z : Addr → Prop) (H : Hp) (v : V) : D → Prop
  | .p x => RP K Z H v x
  | .own xs => ∃ a vs, v = .ref a ∧ H a = some (.lst vs) ∧ ¬ Z a ∧ RPs K Z H vs xs
/-- the lists that the slots have -/
def OW (σ : L2.St) (ρ : EV) (a : Addr) : Prop := ∃ (i : Nat) (xs : List PyData), ρ[i]? = some (some (.own xs)) ∧ σ[i]? = some (some (V.ref a))
structure RS (K : PySem.W.Frag) (Z : Addr → Prop) (H : Hp) (σ : L2.St) (ρ : EV) : Prop where
  len : σ.length = ρ.length
  get : ∀ (i : Nat) (d : D), ρ[i]? = some (some d) → ∃ v, σ[i]? = some (some v) ∧ RD K Z H v d
  ne : ∀ (i j : Nat) (xs ys : List PyData) (a : Addr), ρ[i]? = some (some (.own xs)) → ρ[j]? = some (some (.own ys)) → σ[i]? = some (some (V.ref a)) → σ[j]? = some (some (V.ref a)) → i = j
  z : ∀ a, Z a → ∃ vs, H a = some (.lst vs)
/-- what lies outside O is as it was -/
structure Step (Z : Addr → Prop) (H : Hp) (O : Addr → Prop) (Z' : Addr → Prop) (H' : Hp) : Prop where
  keep : ∀ a o, H a = some o → ¬ O a → H' a = some o
  zz : ∀ a, Z a → Z' a
  new : ∀ a, Z' a → Z a ∨ O a ∨ H a = none

section
variable {K : PySem.W.Frag} {Z Z' Z1 Z2 : Addr → Prop} {H H' H1 H2 : Hp} {O O' : Addr → Prop} {σ σ' : L2.St} {ρ ρ' ρ1 ρ2 : EV}

theorem RPs.length : ∀ {vs : List V} {xs : List PyData}, RPs K Z H vs xs → vs.length = xs.length
  | _, _, .nil => rfl
  | _, _, .cons _ t => by rw [List.length_cons, List.length_cons, RPs.length t]
theorem RPs.get : ∀ {vs : List V} {xs : List PyData} {i : Nat} {x : PyData}, RPs K Z H vs xs → xs[i]? = some x → ∃ v, vs[i]? = some v ∧ RP K Z H v x
  | _, _, _, _, .nil, e => by simp at e
  | _, _, 0, _, .cons r _, e => by simp at e; subst e; exact ⟨_, rfl, r⟩
  | _, _, i + 1, x, .cons _ t, e => by
    obtain ⟨u, h1, h2⟩ := RPs.get (i := i) (x := x) t (by simpa using e)
    exact ⟨u, by simpa using h1, h2⟩
theorem RPs.append : ∀ {vs ws : List V} {xs ys : List PyData}, RPs K Z H vs xs → RPs K Z H ws ys → RPs K Z H (vs ++ ws) (xs ++ ys)
  | _, _, _, _, .nil, s => s
  | _, _, _, _, .cons r t, s => .cons r (RPs.append t s)
theorem RPs.take : ∀ {vs : List V} {xs : List PyData} (n : Nat), RPs K Z H vs xs → RPs K Z H (vs.take n) (xs.take n)
  | _, _, 0, _ => .nil
  | _, _, _ + 1, .nil => .nil
  | _, _, n + 1, .cons r t => .cons r (RPs.take n t)
theorem RPs.drop : ∀ {vs : List V} {xs : List PyData} (n : Nat), RPs K Z H vs xs → RPs K Z H (vs.drop n) (xs.drop n)
  | _, _, 0, r => r
  | _, _, _ + 1, .nil => .nil
  | _, _, n + 1, .cons _ t => RPs.drop n t
theorem RPs.set {v : V} {x : PyData} (r : RP K Z H v x) : ∀ {vs : List V} {xs : List PyData} (i : Nat), RPs K Z H vs xs → RPs K Z H (vs.set i v) (xs.set i x)
  | _, _, _, .nil => .nil
  | _, _, 0, .cons _ t => .cons r t
  | _, _, i + 1, .cons q t => .cons q (RPs.set r i t)
theorem RPs.erase : ∀ {vs : List V} {xs : List PyData} (i : Nat), RPs K Z H vs xs → RPs K Z H (vs.eraseIdx i) (xs.eraseIdx i)
  | _, _, _, .nil => .nil
  | _, _, 0, .cons _ t => t
  | _, _, i + 1, .cons q t => .cons q (RPs.erase i t)
theorem RPs.dropLast {vs : List V} {xs : List PyData} (h : RPs K Z H vs xs) : RPs K Z H vs.dropLast xs.dropLast := by
  rw [List.dropLast_eq_take, List.dropLast_eq_take, h.length]
  exact h.take _

/-! ### stability -/
theorem SqT.step {a : Addr} {vs : List V} (h : SqT K H a vs) (s : Step Z H O Z' H') (hO : ∀ a, O a → ¬ Z a ∧ ∃ vs, H a = some (.lst vs)) : SqT K H' a vs := by
  rcases h with (h | ⟨o, h⟩) | h
  · refine .inl (.inl (s.keep _ _ h fun q => ?_))
    obtain ⟨_, ws, e⟩ := hO _ q
    rw [h] at e; cases e
  · refine .inl (.inr ⟨o, s.keep _ _ h fun q => ?_⟩)
    obtain ⟨_, ws, e⟩ := hO _ q
    rw [h] at e; cases e
  · exact .inr h
theorem SqZ.step {a : Addr} {vs : List V} (h : SqZ K Z H a vs) (s : Step Z H O Z' H') (hO : ∀ a, O a → ¬ Z a ∧ ∃ vs, H a = some (.lst vs)) : SqZ K Z' H' a vs := by
  rcases h with ⟨hz, h⟩ | ⟨o, h⟩ | h
  · exact .inl ⟨s.zz _ hz, s.keep _ _ h fun q => (hO _ q).1 hz⟩
  · refine .inr (.inl ⟨o, s.keep _ _ h fun q => ?_⟩)
    obtain ⟨_, ws, e⟩ := hO _ q
    rw [h] at e; cases e
  · exact .inr (.inr h)
mutual
theorem RP.step (s : Step Z H O Z' H') (hO : ∀ a, O a → ¬ Z a ∧ ∃ vs, H a = some (.lst vs)) : ∀ (x : PyData) {v : V}, RP K Z H v x → RP K Z' H' v x
  | .none, _, h => by cases h; exact .non
  | .bool b, _, h => by cases h; exact .bl b
  | .int i, _, h => by cases h; exact .int i
  | .str x, _, h => by cases h; exact .str x
  | .list xs, _, h => by
    cases h with
    | lst hs ha => exact .lst (SqZ.step hs s hO) (RPs.step s hO xs ha)
  | .tuple xs, _, h => by
    cases h with
    | tup hs ha => exact .tup (SqT.step hs s hO) (RPs.step s hO xs ha)
  | .dict _, _, h => by cases h
theorem RPs.step (s : Step Z H O Z' H') (hO : ∀ a, O a → ¬ Z a ∧ ∃ vs, H a = some (.lst vs)) : ∀ (xs : List PyData) {vs : List V}, RPs K Z H vs xs → RPs K Z' H' vs xs
  | [], _, h => by cases h; exact .nil
  | x :: xs, _, h => by
    cases h with
    | cons h1 h2 => exact .cons (RP.step s hO x h1) (RPs.step s hO xs h2)
end
theorem OW.lst (R : RS K Z H σ ρ) {a : Addr} (h : OW σ ρ a) : ¬ Z a ∧ ∃ vs, H a = some (.lst vs) := by
  obtain ⟨i, xs, e1, e2⟩ := h
  obtain ⟨v, e3, b, vs, e4, e5, nz, _⟩ := R.get i _ e1
  rw [e2] at e3; cases e3; cases e4
  exact ⟨nz, vs, e5⟩
theorem Step.refl : Step Z H O Z H := ⟨fun _ _ e _ => e, fun _ z => z, fun _ z => .inl z⟩
theorem Step.same (h : ∀ a o, H a = some o → H' a = some o) : Step Z H O Z H' := ⟨fun a o e _ => h a o e, fun _ z => z, fun _ z => .inl z⟩
theorem Step.mono (s : Step Z H O Z' H') (h : ∀ a, O a → O' a) : Step Z H O' Z' H' := ⟨fun a o e n => s.keep a o e fun q => n (h a q), s.zz, fun a z => (s.new a z).imp id (Or.imp (h a) id)⟩
theorem Step.trans (s : Step Z H O Z1 H1) (t : Step Z1 H1 O' Z2 H2) (h : ∀ a, O' a → O a ∨ H a = none) : Step Z H O Z2 H2 where
  keep := fun a o e n => t.keep a o (s.keep a o e n) fun q => (h a q).elim n fun z => by rw [e] at z; cases z
  zz := fun a z => t.zz a (s.zz a z)
  new := fun a z => by
    rcases t.new a z with q | q | q
    · exact s.new a q
    · exact .inr (h a q)
    · by_cases ho : O a
      · exact .inr (.inl ho)
      · cases e : H a with
        | none => exact .inr (.inr rfl)
        | some o => rw [s.keep a o e ho] at q; cases q
/-- what a step leaves of a value outside -/
theorem RD.step {v : V} {d : D} (s : Step Z H O Z' H') (hO : ∀ a, O a → ¬ Z a ∧ ∃ vs, H a = some (.lst vs)) (h : RD K Z H v d) (hn : ∀ xs a, d = .own xs → v = .ref a → ¬ O a) : RD K Z' H' v d := by
  cases d with
  | p x => exact RP.step s hO x h
  | own xs =>
    obtain ⟨a, vs, e, h1, h2, h3⟩ := h
    have no := hn xs a rfl e
    refine ⟨a, vs, e, s.keep _ _ h1 no, fun z => ?_, RPs.step s hO xs h3⟩
    rcases s.new a z with q | q | q
    · exact h2 q
    · exact no q
    · rw [h1] at q; cases q
/-- the environment, where a step leaves its lists alone -/
theorem RS.step (R : RS K Z H σ ρ) (s : Step Z H O Z' H') (hO : ∀ a, O a → ¬ Z a ∧ ∃ vs, H a = some (.lst vs)) (hn : ∀ a, OW σ ρ a → ¬ O a) (hz : ∀ a, Z' a → ∃ vs, H' a = some (.lst vs)) : RS K Z' H' σ ρ where
  len := R.len
  get := fun i d e => by
    obtain ⟨v, e1, r⟩ := R.get i d e
    refine ⟨v, e1, r.step s hO fun xs a e2 e3 => ?_⟩
    subst e2 e3
    exact hn a ⟨i, xs, e, e1⟩
  ne := R.ne
  z := hz
theorem RS.noZ (R : RS K Z H σ ρ) {a : Addr} (h : H a = none) : ¬ Z a := fun z => by
  obtain ⟨vs, e⟩ := R.z a z
  rw [h] at e; cases e
theorem RS.noOW (R : RS K Z H σ ρ) {a : Addr} (h : H a = none) : ¬ OW σ ρ a := fun z => by
  obtain ⟨_, vs, e⟩ := OW.lst R z
  rw [h] at e; cases e
def NoO : Addr → Prop := fun _ => False
/-- a new object -/
theorem RS.same (R : RS K Z H σ ρ) (h : ∀ a o, H a = some o → H' a = some o) : RS K Z H' σ ρ :=
  R.step (O := NoO) (Step.same h) (fun _ z => z.elim) (fun _ _ z => z) fun a z => let ⟨vs, e⟩ := R.z a z; ⟨vs, h a _ e⟩
theorem RP.same {v : V} {x : PyData} (h : ∀ a o, H a = some o → H' a = some o) (r : RP K Z H v x) : RP K Z H' v x := RP.step (O := NoO) (Step.same h) (fun _ z => z.elim) x r
theorem RPs.same {vs : List V} {xs : List PyData} (h : ∀ a o, H a = some o → H' a = some o) (r : RPs K Z H vs xs) : RPs K Z H' vs xs := RPs.step (O := NoO) (Step.same h) (fun _ z => z.elim) xs r
theorem ext_new {p : Addr} {o : HO} (hp : H p = none) : ∀ a u, H a = some u → upd H p o a = some u := fun a u e => by rw [upd_ne (ne_of_none e hp)]; exact e

/-! ### a slot changed -/
theorem get_set {α : Type} {l : List α} {i j : Nat} {x y : α} (h : (l.set i x)[j]? = some y) : (j = i ∧ y = x ∧ i < l.length) ∨ (j ≠ i ∧ l[j]? = some y) := by
  by_cases e : i = j
  · subst e
    by_cases hl : i < l.length
    · rw [List.getElem?_set_self hl] at h; exact .inl ⟨rfl, (Option.some.inj h).symm, hl⟩
    · rw [List.getElem?_eq_none (by rw [List.length_set]; omega)] at h; cases h
  · rw [List.getElem?_set_ne e] at h; exact .inr ⟨fun q => e q.symm, h⟩
/-- the content of a slot told otherwise (the slot's value stays) -/
theorem RS.tell (R : RS K Z H σ ρ) {i : Nat} {v : V} {d : D} (hs : σ[i]? = some (some v)) (r : RD K Z H v d) (hn : ∀ xs a, d = .own xs → v = .ref a → ∀ j ys, j ≠ i → ρ[j]? = some (some (.own ys)) → σ[j]? ≠ some (some (V.ref a))) : RS K Z H σ (ρ.set i (some d)) where
  len := by rw [List.length_set]; exact R.len
  get := fun j e h => by
    rcases get_set h with ⟨rfl, e1, _⟩ | ⟨_, h⟩
    · cases e1; exact ⟨v, hs, r⟩
    · exact R.get j e h
  ne := fun j k xs ys a h1 h2 h3 h4 => by
    rcases get_set h1 with ⟨rfl, e1, _⟩ | ⟨n1, g1⟩
    · rcases get_set h2 with ⟨rfl, e2, _⟩ | ⟨n2, g2⟩
      · rfl
      · cases e1
        rw [hs] at h3; cases h3
        exact absurd h4 (hn xs a rfl rfl k ys n2 g2)
    · rcases get_set h2 with ⟨rfl, e2, _⟩ | ⟨n2, g2⟩
      · cases e2
        rw [hs] at h4; cases h4
        exact absurd h3 (hn ys a rfl rfl j xs n1 g1)
      · exact R.ne j k xs ys a g1 g2 h3 h4
  z := R.z
theorem RS.forget (R : RS K Z H σ ρ) (i : Nat) : RS K Z H σ (ρ.set i none) where
  len := by rw [List.length_set]; exact R.len
  get := fun j e h => by
    rcases get_set h with ⟨rfl, e1, _⟩ | ⟨_, h⟩
    · cases e1
    · exact R.get j e h
  ne := fun j k xs ys a h1 h2 h3 h4 => by
    rcases get_set h1 with ⟨_, e1, _⟩ | ⟨_, h1⟩
    · cases e1
    · rcases get_set h2 with ⟨_, e2, _⟩ | ⟨_, h2⟩
      · cases e2
      · exact R.ne j k xs ys a h1 h2 h3 h4
  z := R.z
/-- a slot is stored -/
theorem RS.store (R : RS K Z H σ ρ) {i : Nat} {v : V} {d : D} (r : RD K Z H v d) (hn : ∀ xs a, d = .own xs → v = .ref a → ¬ OW σ ρ a) : RS K Z H (σ.set i (some v)) (ρ.set i (some d)) where
  len := by rw [List.length_set, List.length_set]; exact R.len
  get := fun j e h => by
    rcases get_set h with ⟨rfl, e1, hl⟩ | ⟨nj, h⟩
    · cases e1
      exact ⟨v, List.getElem?_set_self (by rw [R.len]; exact hl), r⟩
    · rw [List.getElem?_set_ne (Ne.symm nj)]
      exact R.get j e h
  ne := fun j k xs ys a h1 h2 h3 h4 => by
    have q3 := get_set h3
    have q4 := get_set h4
    rcases get_set h1 with ⟨rfl, e1, _⟩ | ⟨n1, g1⟩
    · rcases get_set h2 with ⟨rfl, e2, _⟩ | ⟨n2, g2⟩
      · rfl
      · cases e1
        rcases q3 with ⟨_, e3, _⟩ | ⟨n, _⟩
        · cases e3
          rcases q4 with ⟨z, _⟩ | ⟨_, g4⟩
          · exact absurd z n2
          · exact absurd ⟨k, ys, g2, g4⟩ (hn xs a rfl rfl)
        · exact absurd rfl n
    · rcases q3 with ⟨z, _⟩ | ⟨_, g3⟩
      · exact absurd z n1
      · rcases get_set h2 with ⟨rfl, e2, _⟩ | ⟨n2, g2⟩
        · cases e2
          rcases q4 with ⟨_, e4, _⟩ | ⟨n, _⟩
          · cases e4
            exact absurd ⟨j, xs, g1, g3⟩ (hn ys a rfl rfl)
          · exact absurd rfl n
        · rcases q4 with ⟨z, _⟩ | ⟨_, g4⟩
          · exact absurd z n2
          · exact R.ne j k xs ys a g1 g2 g3 g4
  z := R.z
theorem OW.store {i : Nat} {v : V} {d : D} {a : Addr} (h : OW (σ.set i (some v)) (ρ.set i (some d)) a) : OW σ ρ a ∨ ∃ xs, d = .own xs ∧ v = .ref a := by
  obtain ⟨j, xs, h1, h2⟩ := h
  rcases get_set h1 with ⟨rfl, e1, _⟩ | ⟨n1, h1⟩
  · cases e1
    rcases get_set h2 with ⟨_, e2, _⟩ | ⟨n, _⟩
    · cases e2; exact .inr ⟨xs, rfl, rfl⟩
    · exact absurd rfl n
  · rcases get_set h2 with ⟨z, _⟩ | ⟨_, h2⟩
    · exact absurd z n1
    · exact .inl ⟨j, xs, h1, h2⟩
/-- a list becomes shared -/
def addZ (Z : Addr → Prop) (a : Addr) : Addr → Prop := fun b => Z b ∨ b = a
theorem Step.addZ {Z0 : Addr → Prop} {H0 : Hp} {a : Addr} (s : Step Z0 H0 O Z H) (h : O a ∨ H0 a = none) : Step Z0 H0 O (addZ Z a) H where
  keep := s.keep
  zz := fun b z => .inl (s.zz b z)
  new := fun b z => z.elim (s.new b) fun e => by subst e; exact .inr h
theorem Step.addZ' {a : Addr} : Step Z H (fun b => b = a) (Pv.addZ Z a) H := ⟨fun _ _ e _ => e, fun _ z => .inl z, fun b z => z.elim .inl fun e => .inr (.inl e)⟩
theorem RS.addZ (R : RS K Z H σ ρ) {a : Addr} {vs : List V} (h : H a = some (.lst vs)) (nz : ¬ Z a) (no : ¬ OW σ ρ a) : RS K (Pv.addZ Z a) H σ ρ :=
  R.step Step.addZ' (fun b e => by subst e; exact ⟨nz, vs, h⟩) (fun b o e => by subst e; exact no o) fun b z => z.elim (R.z b) fun e => by subst e; exact ⟨vs, h⟩
theorem RPs.addZ {a : Addr} {vs ws : List V} {xs : List PyData} (h : H a = some (.lst vs)) (nz : ¬ Z a) (r : RPs K Z H ws xs) : RPs K (Pv.addZ Z a) H ws xs :=
  RPs.step Step.addZ' (fun b e => by subst e; exact ⟨nz, vs, h⟩) xs r

/-! ### behind an expression -/
structure After (K : PySem.W.Frag) (Z : Addr → Prop) (H : Hp) (σ : L2.St) (ρ ρ' : EV) (Z' : Addr → Prop) (H' : Hp) : Prop where
  rs : RS K Z' H' σ ρ'
  st : Step Z H (OW σ ρ) Z' H'
  sub : ∀ a, OW σ ρ' a → OW σ ρ a
def OwnNew (H : Hp) (σ : L2.St) (ρ ρ' : EV) (v : V) (d : D) : Prop := ∀ xs a, d = .own xs → v = .ref a → ¬ OW σ ρ' a ∧ (OW σ ρ a ∨ H a = none)
theorem After.refl (R : RS K Z H σ ρ) : After K Z H σ ρ ρ Z H := ⟨R, Step.refl, fun _ o => o⟩
theorem After.trans (a : After K Z H σ ρ ρ1 Z1 H1) (b : After K Z1 H1 σ ρ1 ρ2 Z2 H2) : After K Z H σ ρ ρ2 Z2 H2 :=
  ⟨b.rs, a.st.trans b.st fun x o => .inl (a.sub x o), fun x o => a.sub x (b.sub x o)⟩
theorem After.same (R : RS K Z H σ ρ) (h : ∀ a o, H a = some o → H' a = some o) : After K Z H σ ρ ρ Z H' := ⟨R.same h, Step.same h, fun _ o => o⟩
/-- a value held meanwhile -/
theorem After.rp (a : After K Z H σ ρ ρ' Z' H') (R : RS K Z H σ ρ) {v : V} {x : PyData} (r : RP K Z H v x) : RP K Z' H' v x := RP.step a.st (fun b o => OW.lst R o) x r
theorem After.rps (a : After K Z H σ ρ ρ' Z' H') (R : RS K Z H σ ρ) {v : List V} {x : List PyData} (r : RPs K Z H v x) : RPs K Z' H' v x := RPs.step a.st (fun b o => OW.lst R o) x r
/-- a value that is an own list becomes shared -/
theorem OwnNew.share {v : V} {d : D} (R : RS K Z0' H0' σ ρ) (a : After K Z H σ ρ ρ' Z' H') (r : RD K Z' H' v d) (n : OwnNew H σ ρ ρ' v d) : ∃ Z'', After K Z H σ ρ ρ' Z'' H' ∧ RP K Z'' H' v d.toP := by
  cases d with
  | p x => exact ⟨Z', a, r⟩
  | own xs =>
    obtain ⟨b, vs, rfl, h1, h2, h3⟩ := r
    obtain ⟨n1, n2⟩ := n xs b rfl rfl
    exact ⟨addZ Z' b, ⟨a.rs.addZ h1 h2 n1, a.st.addZ n2, a.sub⟩, .lst (.inl ⟨.inr rfl, h1⟩) (h3.addZ h1 h2)⟩
end

/-! ### a borrowed view -/
inductive RB (K : PySem.W.Frag) (Z : Addr → Prop) (H : Hp) (v : V) : PyData → Prop
  | of {x : PyData} : RP K Z H v x → RB K Z H v x
  | own {a : Addr} {vs : List V} {xs : List PyData} : v = .ref a → H a = some (.lst vs) → RPs K Z H vs xs → RB K Z H v (.list xs)
inductive RBs (K : PySem.W.Frag) (Z : Addr → Prop) (H : Hp) : List V → List PyData → Prop
  | nil : RBs K Z H [] []
  | cons {v : V} {vs : List V} {x : PyData} {xs : List PyData} : RB K Z H v x → RBs K Z H vs xs → RBs K Z H (v :: vs) (x :: xs)
section
variable {K : PySem.W.Frag} {Z : Addr → Prop} {H : Hp} {σ : L2.St} {ρ : EV} {v : V} {x : PyData} {xs : List PyData}
mutual
theorem RP.dp : ∀ (x : PyData) {v : V}, RP K Z H v x → Dp K H v x
  | .none, _, h => by cases h; exact .non
  | .bool b, _, h => by cases h; exact .bl b
  | .int i, _, h => by cases h; exact .int i
  | .str x, _, h => by cases h; exact .str x
  | .list xs, _, h => by
    cases h with
    | lst hs ha => exact .lst hs.sq (RPs.dp xs ha)
  | .tuple xs, _, h => by
    cases h with
    | tup hs ha => exact .tup hs (RPs.dp xs ha)
  | .dict _, _, h => by cases h
theorem RPs.dp : ∀ (xs : List PyData) {vs : List V}, RPs K Z H vs xs → DpAll K H vs xs
  | [], _, h => by cases h; exact .nil
  | x :: xs, _, h => by
    cases h with
    | cons h1 h2 => exact .cons (RP.dp x h1) (RPs.dp xs h2)
end
theorem RB.dp (h : RB K Z H v x) : Dp K H v x := by
  cases h with
  | of r => exact r.dp
  | own e h r => subst e; exact .lst (.of h) (RPs.dp _ r)
theorem RB.list (h : RB K Z H v (.list xs)) : ∃ a vs, v = .ref a ∧ SqL K H a vs ∧ RPs K Z H vs xs := by
  cases h with
  | of r => cases r with | lst hs ha => exact ⟨_, _, rfl, hs.sq, ha⟩
  | own e h r => exact ⟨_, _, e, .of h, r⟩
theorem RB.tuple (h : RB K Z H v (.tuple xs)) : ∃ a vs, v = .ref a ∧ SqT K H a vs ∧ RPs K Z H vs xs := by
  cases h with
  | of r => cases r with | tup hs ha => exact ⟨_, _, rfl, hs, ha⟩
theorem RB.int {i : Int} (h : RB K Z H v (.int i)) : v = .int i := by cases h with | of r => cases r; rfl
theorem RB.bool {i : Bool} (h : RB K Z H v (.bool i)) : v = .bl i := by cases h with | of r => cases r; rfl
theorem RB.str {i : Str} (h : RB K Z H v (.str i)) : v = .str i := by cases h with | of r => cases r; rfl
theorem RB.none (h : RB K Z H v .none) : v = .non := by cases h with | of r => cases r; rfl
theorem RD.rb {d : D} (h : RD K Z H v d) : RB K Z H v d.toP := by
  cases d with
  | p x => exact .of h
  | own xs => obtain ⟨a, vs, e, h1, _, h2⟩ := h; exact .own e h1 h2
/-- operands -/
def OV (K : PySem.W.Frag) (Z : Addr → Prop) (H : Hp) (σ : L2.St) (v : V) : Opd → Prop
  | .v x => RP K Z H v x
  | .s i => σ[i]? = some (some v)
inductive OVs (K : PySem.W.Frag) (Z : Addr → Prop) (H : Hp) (σ : L2.St) : List V → List Opd → Prop
  | nil : OVs K Z H σ [] []
  | cons {v : V} {vs : List V} {x : Opd} {xs : List Opd} : OV K Z H σ v x → OVs K Z H σ vs xs → OVs K Z H σ (v :: vs) (x :: xs)
theorem OV.after {ρ' : EV} {Z' : Addr → Prop} {H' : Hp} {o : Opd} (a : After K Z H σ ρ ρ' Z' H') (R : RS K Z H σ ρ) (h : OV K Z H σ v o) : OV K Z' H' σ v o := by
  cases o with
  | v x => exact a.rp R h
  | s i => exact h
theorem OVs.after {ρ' : EV} {Z' : Addr → Prop} {H' : Hp} (a : After K Z H σ ρ ρ' Z' H') (R : RS K Z H σ ρ) : ∀ {vs : List V} {os : List Opd}, OVs K Z H σ vs os → OVs K Z' H' σ vs os
  | _, _, .nil => .nil
  | _, _, .cons r t => .cons (r.after a R) (OVs.after a R t)
theorem OV.rb (R : RS K Z H σ ρ) {o : Opd} (h : OV K Z H σ v o) (e : rdO ρ o = some x) : RB K Z H v x := by
  cases o with
  | v y => cases e; exact .of h
  | s i =>
    have e' : (match ρ[i]? with
      | some (some d) => some d.toP
      | _ => none) = some x := e
    cases hd : ρ[i]? with
    | none => rw [hd] at e'; cases e'
    | some od =>
      cases od with
      | none => rw [hd] at e'; cases e'
      | some d =>
        rw [hd] at e'; cases e'
        obtain ⟨w, e1, r⟩ := R.get i d hd
        have h' : σ[i]? = some (some v) := h
        rw [h'] at e1; cases e1
        exact r.rb
theorem OVs.rbs (R : RS K Z H σ ρ) : ∀ {vs : List V} {os : List Opd} {xs : List PyData}, OVs K Z H σ vs os → rdOs ρ os = some xs → RBs K Z H vs xs
  | _, _, _, .nil, e => by cases e; exact .nil
  | _, _, _, .cons r t, e => by
    unfold rdOs at e
    obtain ⟨x, e1, e2⟩ := Option.bind_eq_some_iff.mp e
    obtain ⟨ys, e3, e4⟩ := Option.map_eq_some_iff.mp e2
    subst e4
    exact .cons (r.rb R e1) (OVs.rbs R t e3)
end
end Pv

set_option Elab.async false
set_option linter.all false
set_option maxRecDepth 100000
set_option maxHeartbeats 4000000
/-! EvC: each operation of the syntax is one of HandS' rules. -/
namespace Pv
open PySem PySem.Spec PyProof.Rows L2
section
variable {X : Cx} {pins : List (Addr × Obj)} {σ : L2.St} {H : Hp} {s : Shared}
/-- a list that may be read, as it lies -/
theorem rdL (I : Inv X pins σ H s) {l : Addr} {xs : List V} (h : SqL X.K H l xs) : xs.length ≤ sizeLine ∧ ∃ (its : List Value) (n : Nat) (sl : Array (Option Value)), Vals xs its ∧ xs.length = its.length ∧ s.heap.get? l = some { cls := .type "list", dict := none, data := .seq its.toArray n, slots := sl } := by
  obtain ⟨its, r, ⟨⟨cls, dd, data, sl⟩, n, e, hc, hd, ht⟩, z⟩ := I.list h
  simp only at hc hd ht
  subst hc hd ht
  exact ⟨z, its, n, sl, r, r.length, e⟩
end
/-- a new value -/
def NewD (K : PySem.W.Frag) (Z : Addr → Prop) (H : Hp) (v : V) (H' : Hp) (d : D) : Prop :=
  (∀ a o, H a = some o → H' a = some o) ∧ match d with
  | .p x => RP K Z H' v x
  | .own xs => ∃ p vs, v = .ref p ∧ H p = none ∧ H' p = some (.lst vs) ∧ RPs K Z H' vs xs
section
variable {K : PySem.W.Frag} {Z : Addr → Prop} {H : Hp} {v : V} {x : PyData}
theorem NewD.pure (r : RP K Z H v x) : NewD K Z H v H (.p x) := ⟨fun _ _ e => e, r⟩
theorem NewD.tup {p : Addr} {vs : List V} {xs : List PyData} (hp : H p = none) (r : RPs K Z H vs xs) : NewD K Z H (.ref p) (upd H p (.tup vs)) (.p (.tuple xs)) :=
  ⟨ext_new hp, .tup (.of upd_same) (r.same (ext_new hp))⟩
theorem NewD.lst {p : Addr} {vs : List V} {xs : List PyData} (hp : H p = none) (r : RPs K Z H vs xs) : NewD K Z H (.ref p) (upd H p (.lst vs)) (.own xs) :=
  ⟨ext_new hp, p, vs, rfl, hp, upd_same, r.same (ext_new hp)⟩
end
def rB (K : PySem.W.Frag) (f : PyData → PyData → Option D) : R2 := fun x y H Q => ∃ Z px py d, RB K Z H x px ∧ RB K Z H y py ∧ f px py = some d ∧ ∀ v H', NewD K Z H v H' d → Q v H'
def rC (K : PySem.W.Frag) (f : PyData → PyData → Option Bool) : R2 := fun x y H Q => ∃ Z px py b, RB K Z H x px ∧ RB K Z H y py ∧ f px py = some b ∧ Q (.bl b) H
def rU1 (K : PySem.W.Frag) (f : PyData → Option D) : V → Hp → VK → Prop := fun x H Q => ∃ Z px d, RB K Z H x px ∧ f px = some d ∧ ∀ v H', NewD K Z H v H' d → Q v H'
def rBs (K : PySem.W.Frag) (f : List PyData → Option D) : List V → Hp → VK → Prop := fun xs H Q => ∃ Z ps d, RBs K Z H xs ps ∧ f ps = some d ∧ ∀ v H', NewD K Z H v H' d → Q v H'
section
variable {X : Cx}
theorem ite_some {α : Type} {c : Prop} [Decidable c] {a b : α} (h : (if c then some a else none) = some b) : c ∧ a = b := by
  by_cases hc : c
  · rw [if_pos hc] at h; exact ⟨hc, Option.some.inj h⟩
  · rw [if_neg hc] at h; cases h
theorem fits_le {n : Nat} (h : fits n = true) : n ≤ sizeLine := of_decide_eq_true h
theorem inR_mul {i j : Int} (h : (inR i || inR j) = true) : CMul i j := by
  unfold inR at h
  simp only [Bool.or_eq_true, Bool.and_eq_true, decide_eq_true_eq] at h
  exact h
theorem okDiv_c {i j : Int} (h : okDiv j = true) : CDivN i j := by
  unfold okDiv at h
  simp only [Bool.and_eq_true, decide_eq_true_eq] at h
  exact h
theorem okPow_c {i j : Int} (h : okPow i j = true) : CPow i j := by
  unfold okPow at h
  simp only [Bool.and_eq_true, decide_eq_true_eq] at h
  exact h

/-! ### + - * // % ** -/
theorem op_catL : OpR X (binaryOp .Add) (fun x y H Q => ∃ l b xs zs, x = .ref l ∧ y = .ref b ∧ SqL X.K H l xs ∧ SqL X.K H b zs ∧ xs.length + zs.length ≤ sizeLine ∧ ∀ p, H p = none → Q (.ref p) (upd H p (.lst (xs ++ zs)))) := by
  intro pins s σ H x y v u Q I rx ry h
  obtain ⟨l, b, xs, zs, rfl, rfl, hH, hB, hz, q⟩ := h
  cases rx
  cases ry
  obtain ⟨z, its, n, sl, r, hl, e⟩ := rdL I hH
  obtain ⟨z2, its2, n2, sl2, r2, hl2, e2⟩ := rdL I hB
  refine concat_meets ⟨_, e, rfl⟩ ⟨_, e2, rfl⟩ noFill_list_add seq_list_add PySem.F.slot_list_add PySem.F.entry_list_add (PySem.F.args_list_add_2 _ _)
    (list_addW l b its.toArray its2.toArray n n2 none none sl sl2 (by rw [List.size_toArray, List.size_toArray]; omega)) ⟨e, e2, ?_⟩
  have ea : its.toArray ++ its2.toArray = (its ++ its2).toArray := by simp
  rw [ea]
  exact ⟨.ref _, _, I.lnew (t' := s.toks) (r.append r2) (by rw [List.length_append]; omega), rfl, q _ I.fresh⟩
theorem op_addD : OpR X (binaryOp .Add) (rB X.K (binS .add)) := by
  intro pins s σ H x y v u Q I rx ry h
  obtain ⟨Z, px, py, d, bx, by_, e, k⟩ := h
  cases px with
  | int i =>
    cases py with
    | int j =>
      obtain rfl := bx.int; obtain rfl := by_.int
      cases e
      exact op_add pins s σ H _ _ v u Q I rx ry ⟨i, j, rfl, rfl, k _ _ (.pure (.int _))⟩
    | _ => cases e
  | str i =>
    cases py with
    | str j =>
      obtain rfl := bx.str; obtain rfl := by_.str
      obtain ⟨hc, rfl⟩ := ite_some e
      exact op_add_str pins s σ H _ _ v u Q I rx ry ⟨i, j, rfl, rfl, fits_le hc, k _ _ (.pure (.str _))⟩
    | _ => cases e
  | tuple xs =>
    cases py with
    | tuple ys =>
      obtain ⟨a, vs, rfl, sa, ra⟩ := bx.tuple
      obtain ⟨b, ws, rfl, sb, rb⟩ := by_.tuple
      obtain ⟨hc, rfl⟩ := ite_some e
      have l1 := ra.length
      have l2 := rb.length
      refine op_catA pins s σ H _ _ v u Q I rx ry ⟨a, b, vs, ws, rfl, rfl, sa, sb, by have := fits_le hc; omega, fun h0 => ?_, fun h0 h1 => ?_, fun h0 h1 p hp => ?_⟩
      · subst h0
        cases ra
        exact k _ _ (.pure (.tup sb rb))
      · subst h1
        cases rb
        rw [List.append_nil] at k
        exact k _ _ (.pure (.tup sa ra))
      · exact k _ _ (.tup hp (ra.append rb))
    | _ => cases e
  | list xs =>
    cases py with
    | list ys =>
      obtain ⟨a, vs, rfl, sa, ra⟩ := bx.list
      obtain ⟨b, ws, rfl, sb, rb⟩ := by_.list
      obtain ⟨hc, rfl⟩ := ite_some e
      have l1 := ra.length
      have l2 := rb.length
      exact op_catL pins s σ H _ _ v u Q I rx ry ⟨a, b, vs, ws, rfl, rfl, sa, sb, by have := fits_le hc; omega, fun p hp => k _ _ (.lst hp (ra.append rb))⟩
    | _ => cases e
  | _ => cases e
theorem two_ints {o : Bop} (h : ∀ px py d, binS o px py = some d → ∃ i j, px = .int i ∧ py = .int j) {px py : PyData} {d : D} (e : binS o px py = some d) : ∃ i j, px = .int i ∧ py = .int j := h _ _ _ e
theorem op_subD : OpR X (binaryOp .Sub) (rB X.K (binS .sub)) := by
  intro pins s σ H x y v u Q I rx ry h
  obtain ⟨Z, px, py, d, bx, by_, e, k⟩ := h
  cases px with
  | int i =>
    cases py with
    | int j =>
      obtain rfl := bx.int; obtain rfl := by_.int
      cases e
      exact op_sub pins s σ H _ _ v u Q I rx ry ⟨i, j, rfl, rfl, k _ _ (.pure (.int _))⟩
    | _ => cases e
  | _ => cases e
theorem op_mulD : OpR X (binaryOp .Mult) (rB X.K (binS .mul)) := by
  intro pins s σ H x y v u Q I rx ry h
  obtain ⟨Z, px, py, d, bx, by_, e, k⟩ := h
  cases px with
  | int i =>
    cases py with
    | int j =>
      obtain rfl := bx.int; obtain rfl := by_.int
      obtain ⟨hc, rfl⟩ := ite_some e
      exact op_mul pins s σ H _ _ v u Q I rx ry ⟨i, j, rfl, rfl, inR_mul hc, k _ _ (.pure (.int _))⟩
    | _ => cases e
  | _ => cases e
theorem op_fdivD : OpR X (binaryOp .FloorDiv) (rB X.K (binS .fdiv)) := by
  intro pins s σ H x y v u Q I rx ry h
  obtain ⟨Z, px, py, d, bx, by_, e, k⟩ := h
  cases px with
  | int i =>
    cases py with
    | int j =>
      obtain rfl := bx.int; obtain rfl := by_.int
      obtain ⟨hc, rfl⟩ := ite_some e
      exact op_fdivN pins s σ H _ _ v u Q I rx ry ⟨i, j, rfl, rfl, okDiv_c hc, k _ _ (.pure (.int _))⟩
    | _ => cases e
  | _ => cases e
theorem op_modD : OpR X (binaryOp .Mod) (rB X.K (binS .mod)) := by
  intro pins s σ H x y v u Q I rx ry h
  obtain ⟨Z, px, py, d, bx, by_, e, k⟩ := h
  cases px with
  | int i =>
    cases py with
    | int j =>
      obtain rfl := bx.int; obtain rfl := by_.int
      obtain ⟨hc, rfl⟩ := ite_some e
      exact op_modN pins s σ H _ _ v u Q I rx ry ⟨i, j, rfl, rfl, of_decide_eq_true hc, k _ _ (.pure (.int _))⟩
    | _ => cases e
  | _ => cases e
theorem op_powD : OpR X (binaryOp .Pow) (rB X.K (binS .pow)) := by
  intro pins s σ H x y v u Q I rx ry h
  obtain ⟨Z, px, py, d, bx, by_, e, k⟩ := h
  cases px with
  | int i =>
    cases py with
    | int j =>
      obtain rfl := bx.int; obtain rfl := by_.int
      obtain ⟨hc, rfl⟩ := ite_some e
      exact op_pow pins s σ H _ _ v u Q I rx ry ⟨i, j, rfl, rfl, okPow_c hc, k _ _ (.pure (.int _))⟩
    | _ => cases e
  | _ => cases e
def Bop.op : Bop → Operator
  | .add => .Add
  | .sub => .Sub
  | .mul => .Mult
  | .fdiv => .FloorDiv
  | .mod => .Mod
  | .pow => .Pow
theorem op_binD (o : Bop) : OpR X (binaryOp o.op) (rB X.K (binS o)) := by
  cases o
  · exact op_addD
  · exact op_subD
  · exact op_mulD
  · exact op_fdivD
  · exact op_modD
  · exact op_powD

/-! ### comparisons -/
theorem flat_of {K : PySem.W.Frag} {Z : Addr → Prop} {H : Hp} {x : PyData} {v : V} (r : RP K Z H v x) (f : flatP x = true) : flatV v = true := by
  cases r <;> first | rfl | exact absurd f Bool.false_ne_true
theorem flats_of {K : PySem.W.Frag} {Z : Addr → Prop} {H : Hp} : ∀ {xs : List PyData} {vs : List V}, RPs K Z H vs xs → xs.all flatP = true → vs.all flatV = true
  | _, _, .nil, _ => rfl
  | x :: xs, v :: vs, .cons r t, f => by
    rw [List.all_cons, Bool.and_eq_true] at f
    rw [List.all_cons, flat_of r f.1, flats_of t f.2] <;> rfl
theorem eqv_of {K : PySem.W.Frag} {Z Z' : Addr → Prop} {H : Hp} {x y : PyData} {v u : V} (r : RP K Z H v x) (q : RP K Z' H u y) (f : flatP x = true) (g : flatP y = true) : eqV v u = PyData.eqv x y := by
  cases r <;> first | exact absurd f Bool.false_ne_true | (cases q <;> first | exact absurd g Bool.false_ne_true | rfl)
theorem any_of {K : PySem.W.Frag} {Z Z' : Addr → Prop} {H : Hp} {y : PyData} {u : V} (q : RP K Z' H u y) (g : flatP y = true) : ∀ {xs : List PyData} {vs : List V}, RPs K Z H vs xs → xs.all flatP = true → (vs.any fun v => eqV v u) = xs.any fun x => PyData.eqv x y
  | _, _, .nil, _ => rfl
  | x :: xs, v :: vs, .cons r t, f => by
    rw [List.all_cons, Bool.and_eq_true] at f
    rw [List.any_cons, List.any_cons, eqv_of r q f.1 g, any_of q g t f.2]
theorem op_inD' (neg : Bool) : OpR X (compareOp (if neg then .NotIn else .In)) (rC X.K fun x y => match y with
    | .list ys => (inS x ys).map fun b => if neg then !b else b
    | .tuple ys => (inS x ys).map fun b => if neg then !b else b
    | _ => none) := by
  intro pins s σ H x y v u Q I rx ry h
  obtain ⟨Z, px, py, b, bx, by_, e, k⟩ := h
  have go : ∀ (a : Addr) (vs : List V) (ys : List PyData), y = .ref a → (SqL X.K H a vs ∨ SqT X.K H a vs) → RPs X.K Z H vs ys → ((inS px ys).map fun b => if neg then !b else b) = some b →
      wpAny (model X.prog X.w) X.A (compareOp (if neg then .NotIn else .In) v u) (EP X pins σ Q) X.xe s := by
    intro a vs ys ey hs r e
    obtain ⟨c, e1, e2⟩ := Option.map_eq_some_iff.mp e
    obtain ⟨hc, e3⟩ := ite_some e1
    rw [Bool.and_eq_true] at hc
    have rp : RP X.K Z H x px := by
      cases bx with
      | of r => exact r
      | own _ _ _ => exact absurd hc.1 (by intro z; cases z)
    have ei : inV x vs = c := by
      unfold inV
      rw [any_of rp hc.1 r hc.2]
      exact e3
    cases neg with
    | false => exact op_in_seq pins s σ H x y v u Q I rx ry ⟨a, vs, ey, hs, flat_of rp hc.1, flats_of r hc.2, by rw [ei]; cases e2; exact k⟩
    | true => exact op_notIn_seq pins s σ H x y v u Q I rx ry ⟨a, vs, ey, hs, flat_of rp hc.1, flats_of r hc.2, by rw [ei]; cases e2; exact k⟩
  cases py with
  | list ys =>
    obtain ⟨a, vs, ey, hs, r⟩ := by_.list
    exact go a vs ys ey (.inl hs) r e
  | tuple ys =>
    obtain ⟨a, vs, ey, hs, r⟩ := by_.tuple
    exact go a vs ys ey (.inr hs) r e
  | _ => cases e
theorem eqS_cases {K : PySem.W.Frag} {Z : Addr → Prop} {H : Hp} {px py : PyData} {x y : V} {b : Bool} (bx : RB K Z H x px) (by_ : RB K Z H y py) (e : eqS px py = some b) :
    (scal x y = true ∧ decide (x = y) = b) ∨ (Dp K H x px ∧ Dp K H y py ∧ SeqAt.shaped px = true ∧ SeqAt.shaped py = true ∧ PyData.eqv px py = b) := by
  have deep : (if (SeqAt.shaped px && SeqAt.shaped py) = true then some (PyData.eqv px py) else none) = some b → (Dp K H x px ∧ Dp K H y py ∧ SeqAt.shaped px = true ∧ SeqAt.shaped py = true ∧ PyData.eqv px py = b) := fun e => by
    obtain ⟨hc, e1⟩ := ite_some e
    rw [Bool.and_eq_true] at hc
    exact ⟨bx.dp, by_.dp, hc.1, hc.2, e1⟩
  cases px with
  | int i =>
    cases py with
    | int j =>
      obtain rfl := bx.int; obtain rfl := by_.int
      cases e
      exact .inl ⟨rfl, by rw [dec_int, Bool.beq_eq_decide_eq]⟩
    | _ => exact .inr (deep e)
  | bool i =>
    cases py with
    | bool j =>
      obtain rfl := bx.bool; obtain rfl := by_.bool
      cases e
      exact .inl ⟨rfl, by rw [dec_bl, Bool.beq_eq_decide_eq]⟩
    | _ => exact .inr (deep e)
  | str i =>
    cases py with
    | str j =>
      obtain rfl := bx.str; obtain rfl := by_.str
      cases e
      exact .inl ⟨rfl, by rw [dec_str, Bool.beq_eq_decide_eq]⟩
    | _ => exact .inr (deep e)
  | none =>
    cases py with
    | none =>
      obtain rfl := bx.none; obtain rfl := by_.none
      cases e
      exact .inl ⟨rfl, rfl⟩
    | _ => exact .inr (deep e)
  | _ => exact .inr (deep e)
theorem op_eqS (hu : X.A.units + 64 < cLine) : OpR X (compareOp .Eq) (rC X.K eqS) := by
  intro pins s σ H x y v u Q I rx ry h
  obtain ⟨Z, px, py, b, bx, by_, e, k⟩ := h
  rcases eqS_cases bx by_ e with ⟨h1, h2⟩ | ⟨h1, h2, h3, h4, h5⟩
  · exact op_eq pins s σ H x y v u Q I rx ry ⟨h1, by rw [h2]; exact k⟩
  · exact op_eqD hu pins s σ H x y v u Q I rx ry ⟨px, py, h1, h2, h3, h4, by rw [h5]; exact k⟩
theorem op_neS (hu : X.A.units + 64 < cLine) : OpR X (compareOp .NotEq) (rC X.K fun x y => (eqS x y).map (!·)) := by
  intro pins s σ H x y v u Q I rx ry h
  obtain ⟨Z, px, py, b, bx, by_, e, k⟩ := h
  obtain ⟨c, e1, e2⟩ := Option.map_eq_some_iff.mp e
  subst e2
  rcases eqS_cases bx by_ e1 with ⟨h1, h2⟩ | ⟨h1, h2, h3, h4, h5⟩
  · exact op_ne pins s σ H x y v u Q I rx ry ⟨h1, by rw [h2]; exact k⟩
  · exact op_neD hu pins s σ H x y v u Q I rx ry ⟨px, py, h1, h2, h3, h4, by rw [h5]; exact k⟩
def Cop.op : Cop → CmpOp
  | .eq => .Eq
  | .ne => .NotEq
  | .lt => .Lt
  | .le => .LtE
  | .gt => .Gt
  | .ge => .GtE
  | .isN => .Is
  | .notN => .IsNot
  | .isin => .In
  | .notin => .NotIn
def isNoneP : PyData → Bool
  | .none => true
  | _ => false
theorem rb_non {K : PySem.W.Frag} {Z : Addr → Prop} {H : Hp} {x : PyData} {v : V} (b : RB K Z H v x) : decide (v = .non) = isNoneP x := by
  cases b with
  | of r => cases r <;> rfl
  | own e' _ _ => rw [e']; rfl
theorem op_cmpD (o : Cop) (hu : X.A.units + 64 < cLine) : OpR X (compareOp o.op) (rC X.K (cmpS o)) := by
  cases o with
  | eq => exact op_eqS hu
  | ne => exact op_neS hu
  | isin =>
    intro pins s σ H x y v u Q I rx ry h
    obtain ⟨Z, px, py, b, bx, by_, e, k⟩ := h
    refine op_inD' false pins s σ H x y v u Q I rx ry ⟨Z, px, py, b, bx, by_, ?_, k⟩
    cases py <;> first | (cases e; done) | (simpa [cmpS] using e)
  | notin =>
    intro pins s σ H x y v u Q I rx ry h
    obtain ⟨Z, px, py, b, bx, by_, e, k⟩ := h
    refine op_inD' true pins s σ H x y v u Q I rx ry ⟨Z, px, py, b, bx, by_, ?_, k⟩
    cases py <;> first | (cases e; done) | (simpa [cmpS] using e)
  | isN =>
    intro pins s σ H x y v u Q I rx ry h
    obtain ⟨Z, px, py, b, bx, by_, e, k⟩ := h
    cases py with
    | none =>
      obtain rfl := by_.none
      refine op_isN pins s σ H x _ v u Q I rx ry ⟨rfl, ?_⟩
      rw [rb_non bx]
      cases px <;> first | (cases e; done) | (cases e; exact k)
    | _ => cases e
  | notN =>
    intro pins s σ H x y v u Q I rx ry h
    obtain ⟨Z, px, py, b, bx, by_, e, k⟩ := h
    cases py with
    | none =>
      obtain rfl := by_.none
      refine op_notN pins s σ H x _ v u Q I rx ry ⟨rfl, ?_⟩
      rw [rb_non bx]
      cases px <;> first | (cases e; done) | (cases e; exact k)
    | _ => cases e
  | lt =>
    intro pins s σ H x y v u Q I rx ry h
    obtain ⟨Z, px, py, d, bx, by_, e, k⟩ := h
    cases px with
    | int i =>
      cases py with
      | int j =>
        obtain rfl := bx.int; obtain rfl := by_.int
        cases e
        exact op_lt pins s σ H _ _ v u Q I rx ry ⟨i, j, rfl, rfl, k⟩
      | _ => cases e
    | _ => cases e
  | le =>
    intro pins s σ H x y v u Q I rx ry h
    obtain ⟨Z, px, py, d, bx, by_, e, k⟩ := h
    cases px with
    | int i =>
      cases py with
      | int j =>
        obtain rfl := bx.int; obtain rfl := by_.int
        cases e
        exact op_le pins s σ H _ _ v u Q I rx ry ⟨i, j, rfl, rfl, k⟩
      | _ => cases e
    | _ => cases e
  | gt =>
    intro pins s σ H x y v u Q I rx ry h
    obtain ⟨Z, px, py, d, bx, by_, e, k⟩ := h
    cases px with
    | int i =>
      cases py with
      | int j =>
        obtain rfl := bx.int; obtain rfl := by_.int
        cases e
        exact op_gt pins s σ H _ _ v u Q I rx ry ⟨i, j, rfl, rfl, k⟩
      | _ => cases e
    | _ => cases e
  | ge =>
    intro pins s σ H x y v u Q I rx ry h
    obtain ⟨Z, px, py, d, bx, by_, e, k⟩ := h
    cases px with
    | int i =>
      cases py with
      | int j =>
        obtain rfl := bx.int; obtain rfl := by_.int
        cases e
        exact op_ge pins s σ H _ _ v u Q I rx ry ⟨i, j, rfl, rfl, k⟩
      | _ => cases e
    | _ => cases e

/-! ### truth, -a -/
theorem RPs.isEmpty {K : PySem.W.Frag} {Z : Addr → Prop} {H : Hp} {vs : List V} {xs : List PyData} (r : RPs K Z H vs xs) : (!vs.isEmpty) = !xs.isEmpty := by
  cases r <;> rfl
theorem truthD {K : PySem.W.Frag} {Z : Addr → Prop} {H : Hp} {x : PyData} {v : V} {b : Bool} (h : RB K Z H v x) (e : truthS x = some b) : TruV K v H b := by
  cases x with
  | none => obtain rfl := h.none; cases e; rfl
  | bool i => obtain rfl := h.bool; cases e; rfl
  | int i => obtain rfl := h.int; cases e; rfl
  | str i =>
    obtain rfl := h.str
    obtain ⟨hc, e⟩ := ite_some e
    exact ⟨fits_le hc, e.symm⟩
  | list xs =>
    obtain ⟨a, vs, rfl, hs, r⟩ := h.list
    cases e
    exact .inl ⟨vs, hs, r.isEmpty.symm⟩
  | tuple xs =>
    obtain ⟨a, vs, rfl, hs, r⟩ := h.tuple
    cases e
    exact .inr (.inl ⟨vs, hs, r.isEmpty.symm⟩)
  | dict _ => cases e
theorem un_negD : UnR X (unaryOp .USub) (rU1 X.K negS) := by
  intro pins s σ H x v Q I rx h
  obtain ⟨Z, px, d, bx, e, k⟩ := h
  cases px with
  | int i =>
    obtain rfl := bx.int
    cases e
    exact @un_neg X pins s σ H _ v Q I rx ⟨i, rfl, k _ _ (.pure (.int _))⟩
  | _ => cases e

/-! ### items, slices -/
theorem atI_rp {K : PySem.W.Frag} {Z : Addr → Prop} {H : Hp} {vs : List V} {xs : List PyData} {i : Int} {x : PyData} (r : RPs K Z H vs xs) (e : atI xs i = some x) : ∃ v, atI vs i = some v ∧ RP K Z H v x := by
  unfold atI at e ⊢
  obtain ⟨j, e1, e2⟩ := Option.bind_eq_some_iff.mp e
  obtain ⟨v, h1, h2⟩ := r.get e2
  exact ⟨v, by rw [r.length, e1]; exact h1, h2⟩
theorem ix_D : IxR X (rB X.K fun x y => (ixS x y).map .p) := by
  intro value slice pins s σ H x y v u Q I rx ry h hsub
  obtain ⟨Z, px, py, d, bx, by_, e, k⟩ := h
  obtain ⟨z, e1, e2⟩ := Option.map_eq_some_iff.mp e
  subst e2
  cases px with
  | list xs =>
    cases py with
    | int i =>
      obtain ⟨a, vs, rfl, hs, r⟩ := bx.list
      obtain rfl := by_.int
      obtain ⟨w, h1, h2⟩ := atI_rp r e1
      exact ix_list value slice pins s σ H _ _ v u Q I rx ry ⟨a, vs, i, w, rfl, rfl, hs, h1, k _ _ (.pure h2)⟩ hsub
    | _ => cases e1
  | tuple xs =>
    cases py with
    | int i =>
      obtain ⟨a, vs, rfl, hs, r⟩ := bx.tuple
      obtain rfl := by_.int
      obtain ⟨w, h1, h2⟩ := atI_rp r e1
      exact ix_tup value slice pins s σ H _ _ v u Q I rx ry ⟨a, vs, i, w, rfl, rfl, hs, h1, k _ _ (.pure h2)⟩ hsub
    | _ => cases e1
  | str x =>
    cases py with
    | int i =>
      obtain rfl := bx.str
      obtain rfl := by_.int
      have e1' : (if fits x.length = true then (atI x.cps.toList i).map fun c => PyData.str ⟨#[c]⟩ else none) = some z := e1
      by_cases hc : fits x.length = true
      · rw [if_pos hc] at e1'
        obtain ⟨c, e3, e4⟩ := Option.map_eq_some_iff.mp e1'
        subst e4
        exact ix_str value slice pins s σ H _ _ v u Q I rx ry ⟨x, i, c, rfl, rfl, fits_le hc, e3, k _ _ (.pure (.str _))⟩ hsub
      · rw [if_neg hc] at e1'; cases e1'
    | _ => cases e1
  | _ => cases e1
theorem cut_rp {K : PySem.W.Frag} {Z : Addr → Prop} {H : Hp} {vs : List V} {xs : List PyData} (r : RPs K Z H vs xs) (lo hi : Option Int) : RPs K Z H (cutV vs lo hi) (cutS xs lo hi) := by
  unfold cutV cutS
  rw [r.length]
  exact (r.drop _).take _
theorem cut_whole (xs : List V) (lo hi : Option Int) (h : HT.sIx xs.length 0 lo = 0 ∧ HT.sIx xs.length xs.length hi = xs.length) : cutV xs lo hi = xs := by
  unfold cutV
  rw [h.1, h.2, List.drop_zero, Nat.sub_zero, List.take_length]
def rSl (K : PySem.W.Frag) : V → Option Int → Option Int → Hp → VK → Prop := fun x lo hi H Q => ∃ Z px d, RB K Z H x px ∧ slS px lo hi = some d ∧ ∀ v H', NewD K Z H v H' d → Q v H'
theorem sl_D : SlR X (rSl X.K) := by
  intro pins s σ H x v vl vu lo hi sl Q I rx hs pl pu h
  obtain ⟨Z, px, d, bx, e, k⟩ := h
  cases px with
  | list xs =>
    obtain ⟨a, vs, rfl, hr, r⟩ := bx.list
    cases e
    exact sl_list pins s σ H _ v vl vu lo hi sl Q I rx hs pl pu ⟨a, vs, rfl, hr, fun p hp => k _ _ (.lst hp (cut_rp r lo hi))⟩
  | tuple xs =>
    obtain ⟨a, vs, rfl, hr, r⟩ := bx.tuple
    cases e
    refine sl_tupA pins s σ H _ v vl vu lo hi sl Q I rx hs pl pu ⟨a, vs, rfl, hr, fun hw => ?_, fun hw p hp => k _ _ (.tup hp (cut_rp r lo hi))⟩
    have q := cut_rp r lo hi
    rw [cut_whole vs lo hi hw] at q
    exact k _ _ (.pure (.tup hr q))
  | _ => cases e
end
end Pv

set_option Elab.async false
set_option linter.all false
set_option maxRecDepth 100000
set_option maxHeartbeats 4000000
/-! EvC2: builtins, methods that change a list. -/
namespace Pv
open PySem PySem.Spec PyProof.Rows L2
section
variable {K : PySem.W.Frag} {Z : Addr → Prop} {H : Hp}
theorem RBs.one {vs : List V} {x : PyData} (h : RBs K Z H vs [x]) : ∃ v, vs = [v] ∧ RB K Z H v x := by
  cases h with | cons r t => cases t; exact ⟨_, rfl, r⟩
theorem RBs.two {vs : List V} {x y : PyData} (h : RBs K Z H vs [x, y]) : ∃ v w, vs = [v, w] ∧ RB K Z H v x ∧ RB K Z H w y := by
  cases h with | cons r t => cases t with | cons r2 t => cases t; exact ⟨_, _, rfl, r, r2⟩
theorem intsOf_rp : ∀ {xs : List PyData} {vs : List V} {ns : List Int}, RPs K Z H vs xs → intsOf xs = some ns → vs = ns.map V.int
  | _, _, _, .nil, e => by cases e; rfl
  | x :: xs, v :: vs, ns, .cons r t, e => by
    cases x with
    | int i =>
      obtain ⟨ms, e1, e2⟩ := Option.map_eq_some_iff.mp (show (intsOf xs).map (i :: ·) = some ns from e)
      subst e2
      cases r
      rw [intsOf_rp t e1] <;> rfl
    | _ => cases e
theorem boolsOf_rp : ∀ {xs : List PyData} {vs : List V} {ns : List Bool}, RPs K Z H vs xs → boolsOf xs = some ns → vs = ns.map V.bl
  | _, _, _, .nil, e => by cases e; rfl
  | x :: xs, v :: vs, ns, .cons r t, e => by
    cases x with
    | bool i =>
      obtain ⟨ms, e1, e2⟩ := Option.map_eq_some_iff.mp (show (boolsOf xs).map (i :: ·) = some ns from e)
      subst e2
      cases r
      rw [boolsOf_rp t e1] <;> rfl
    | _ => cases e
end
theorem maxL_mem : ∀ (r : List Int) (m : Int), maxL m r ∈ m :: r ∧ ∀ y ∈ m :: r, y ≤ maxL m r
  | [], m => ⟨by simp [maxL], fun y hy => by simp at hy; subst hy; exact Int.le_refl _⟩
  | x :: r, m => by
    obtain ⟨h1, h2⟩ := maxL_mem r (if x > m then x else m)
    have e : maxL m (x :: r) = maxL (if x > m then x else m) r := rfl
    rw [e]
    by_cases hx : x > m
    · rw [if_pos hx] at h1 h2 ⊢
      refine ⟨List.mem_cons_of_mem _ h1, fun y hy => ?_⟩
      rcases List.mem_cons.mp hy with rfl | hy
      · have := h2 x List.mem_cons_self; omega
      · exact h2 y hy
    · rw [if_neg hx] at h1 h2 ⊢
      refine ⟨?_, fun y hy => ?_⟩
      · rcases List.mem_cons.mp h1 with e1 | h1
        · rw [e1]; exact List.mem_cons_self
        · exact List.mem_cons_of_mem _ (List.mem_cons_of_mem _ h1)
      · rcases List.mem_cons.mp hy with rfl | hy
        · exact h2 y List.mem_cons_self
        · rcases List.mem_cons.mp hy with rfl | hy
          · have := h2 m List.mem_cons_self; omega
          · exact h2 y (List.mem_cons_of_mem _ hy)
theorem minL_mem : ∀ (r : List Int) (m : Int), minL m r ∈ m :: r ∧ ∀ y ∈ m :: r, minL m r ≤ y
  | [], m => ⟨by simp [minL], fun y hy => by simp at hy; subst hy; exact Int.le_refl _⟩
  | x :: r, m => by
    obtain ⟨h1, h2⟩ := minL_mem r (if x < m then x else m)
    have e : minL m (x :: r) = minL (if x < m then x else m) r := rfl
    rw [e]
    by_cases hx : x < m
    · rw [if_pos hx] at h1 h2 ⊢
      refine ⟨List.mem_cons_of_mem _ h1, fun y hy => ?_⟩
      rcases List.mem_cons.mp hy with rfl | hy
      · have := h2 x List.mem_cons_self; omega
      · exact h2 y hy
    · rw [if_neg hx] at h1 h2 ⊢
      refine ⟨?_, fun y hy => ?_⟩
      · rcases List.mem_cons.mp h1 with e1 | h1
        · rw [e1]; exact List.mem_cons_self
        · exact List.mem_cons_of_mem _ (List.mem_cons_of_mem _ h1)
      · rcases List.mem_cons.mp hy with rfl | hy
        · exact h2 y List.mem_cons_self
        · rcases List.mem_cons.mp hy with rfl | hy
          · have := h2 m List.mem_cons_self; omega
          · exact h2 y (List.mem_cons_of_mem _ hy)
section
variable {X : Cx}
def Blt.isTy : Blt → Bool
  | .tuple => true
  | .list => true
  | .int => true
  | _ => false
def Blt.id : Blt → String
  | .len => "len"
  | .tuple => "tuple"
  | .list => "list"
  | .abs => "abs"
  | .int => "int"
  | .sum => "sum"
  | .max => "max"
  | .min => "min"
  | .any => "any"
  | .all => "all"
def Blt.val (b : Blt) : Value := if b.isTy then .type b.id else .builtin b.id
theorem blt_len : CallR X (.builtin "len") (rBs X.K (bltS .len)) := by
  intro pins s σ H xs us Q I rs h
  obtain ⟨Z, ps, d, bs, e, k⟩ := h
  match ps, e with
  | [.list ys], e =>
    obtain ⟨v, rfl, b⟩ := bs.one
    obtain ⟨a, vs, rfl, hs, r⟩ := b.list
    cases e
    exact call_len_seq pins s σ H _ us Q I rs ⟨a, vs, rfl, .inl hs, by rw [r.length]; exact k _ _ (.pure (.int _))⟩
  | [.tuple ys], e =>
    obtain ⟨v, rfl, b⟩ := bs.one
    obtain ⟨a, vs, rfl, hs, r⟩ := b.tuple
    cases e
    exact call_len_seq pins s σ H _ us Q I rs ⟨a, vs, rfl, .inr hs, by rw [r.length]; exact k _ _ (.pure (.int _))⟩
  | [.str z], e =>
    obtain ⟨v, rfl, b⟩ := bs.one
    obtain rfl := b.str
    obtain ⟨hc, rfl⟩ := ite_some e
    exact call_len_str pins s σ H _ us Q I rs ⟨z, rfl, fits_le hc, k _ _ (.pure (.int _))⟩
theorem blt_tuple : CallR X (.type "tuple") (rBs X.K (bltS .tuple)) := by
  intro pins s σ H xs us Q I rs h
  obtain ⟨Z, ps, d, bs, e, k⟩ := h
  match ps, e with
  | [.list ys], e =>
    obtain ⟨v, rfl, b⟩ := bs.one
    obtain ⟨a, vs, rfl, hs, r⟩ := b.list
    cases e
    exact call_tuple_of pins s σ H _ us Q I rs ⟨a, vs, rfl, .inl ⟨hs, fun p hp => k _ _ (.tup hp r)⟩⟩
  | [.tuple ys], e =>
    obtain ⟨v, rfl, b⟩ := bs.one
    obtain ⟨a, vs, rfl, hs, r⟩ := b.tuple
    cases e
    exact call_tuple_of pins s σ H _ us Q I rs ⟨a, vs, rfl, .inr ⟨hs, k _ _ (.pure (.tup hs r))⟩⟩
theorem blt_list : CallR X (.type "list") (rBs X.K (bltS .list)) := by
  intro pins s σ H xs us Q I rs h
  obtain ⟨Z, ps, d, bs, e, k⟩ := h
  match ps, e with
  | [.list ys], e =>
    obtain ⟨v, rfl, b⟩ := bs.one
    obtain ⟨a, vs, rfl, hs, r⟩ := b.list
    cases e
    exact call_list_of pins s σ H _ us Q I rs ⟨a, vs, rfl, .inl hs, fun p hp => k _ _ (.lst hp r)⟩
  | [.tuple ys], e =>
    obtain ⟨v, rfl, b⟩ := bs.one
    obtain ⟨a, vs, rfl, hs, r⟩ := b.tuple
    cases e
    exact call_list_of pins s σ H _ us Q I rs ⟨a, vs, rfl, .inr hs, fun p hp => k _ _ (.lst hp r)⟩
theorem blt_abs : CallR X (.builtin "abs") (rBs X.K (bltS .abs)) := by
  intro pins s σ H xs us Q I rs h
  obtain ⟨Z, ps, d, bs, e, k⟩ := h
  match ps, e with
  | [.int i], e =>
    obtain ⟨v, rfl, b⟩ := bs.one
    obtain rfl := b.int
    cases e
    exact call_abs pins s σ H _ us Q I rs ⟨i, rfl, k _ _ (.pure (.int _))⟩
theorem blt_int : CallR X (.type "int") (rBs X.K (bltS .int)) := by
  intro pins s σ H xs us Q I rs h
  obtain ⟨Z, ps, d, bs, e, k⟩ := h
  match ps, e with
  | [.int i], e =>
    obtain ⟨v, rfl, b⟩ := bs.one
    obtain rfl := b.int
    cases e
    exact call_int1 pins s σ H _ us Q I rs (.inl ⟨i, rfl, k _ _ (.pure (.int _))⟩)
  | [.bool i], e =>
    obtain ⟨v, rfl, b⟩ := bs.one
    obtain rfl := b.bool
    cases e
    exact call_int1 pins s σ H _ us Q I rs (.inr ⟨i, rfl, k _ _ (.pure (.int _))⟩)
theorem blt_sum (hc : X.calm = true) : CallR X (.builtin "sum") (rBs X.K (bltS .sum)) := by
  intro pins s σ H xs us Q I rs h
  obtain ⟨Z, ps, d, bs, e, k⟩ := h
  match ps, e with
  | [.list ys], e =>
    obtain ⟨v, rfl, b⟩ := bs.one
    obtain ⟨a, vs, rfl, hs, r⟩ := b.list
    obtain ⟨ns, e1, rfl⟩ := Option.map_eq_some_iff.mp e
    obtain rfl := intsOf_rp r e1
    exact cr_sum hc pins s σ H _ us Q I rs ⟨a, ns, rfl, hs, k _ _ (.pure (.int _))⟩
theorem blt_any (hc : X.calm = true) : CallR X (.builtin "any") (rBs X.K (bltS .any)) := by
  intro pins s σ H xs us Q I rs h
  obtain ⟨Z, ps, d, bs, e, k⟩ := h
  match ps, e with
  | [.list ys], e =>
    obtain ⟨v, rfl, b⟩ := bs.one
    obtain ⟨a, vs, rfl, hs, r⟩ := b.list
    obtain ⟨ns, e1, rfl⟩ := Option.map_eq_some_iff.mp e
    obtain rfl := boolsOf_rp r e1
    exact cr_any hc pins s σ H _ us Q I rs ⟨a, ns, rfl, hs, k _ _ (.pure (.bl _))⟩
theorem blt_all (hc : X.calm = true) : CallR X (.builtin "all") (rBs X.K (bltS .all)) := by
  intro pins s σ H xs us Q I rs h
  obtain ⟨Z, ps, d, bs, e, k⟩ := h
  match ps, e with
  | [.list ys], e =>
    obtain ⟨v, rfl, b⟩ := bs.one
    obtain ⟨a, vs, rfl, hs, r⟩ := b.list
    obtain ⟨ns, e1, rfl⟩ := Option.map_eq_some_iff.mp e
    obtain rfl := boolsOf_rp r e1
    exact cr_all hc pins s σ H _ us Q I rs ⟨a, ns, rfl, hs, k _ _ (.pure (.bl _))⟩
theorem blt_max (hc : X.calm = true) : CallR X (.builtin "max") (rBs X.K (bltS .max)) := by
  intro pins s σ H xs us Q I rs h
  obtain ⟨Z, ps, d, bs, e, k⟩ := h
  match ps, e with
  | [.int i, .int j], e =>
    obtain ⟨v, w, rfl, b1, b2⟩ := bs.two
    obtain rfl := b1.int; obtain rfl := b2.int
    cases e
    exact call_max2 hc pins s σ H _ us Q I rs ⟨i, j, rfl, k _ _ (.pure (.int _))⟩
  | [.list ys], e =>
    obtain ⟨v, rfl, b⟩ := bs.one
    obtain ⟨a, vs, rfl, hs, r⟩ := b.list
    have e' : (match intsOf ys with | some (m :: r) => some (D.p (.int (maxL m r))) | _ => none) = some d := e
    cases e1 : intsOf ys with
    | none => rw [e1] at e'; cases e'
    | some ns =>
      cases ns with
      | nil => rw [e1] at e'; cases e'
      | cons m t =>
        rw [e1] at e'; cases e'
        obtain rfl := intsOf_rp r e1
        obtain ⟨h1, h2⟩ := maxL_mem t m
        refine cr_max hc pins s σ H _ us Q I rs ⟨a, m :: t, rfl, hs, Nat.zero_lt_succ _, fun z hz hb => ?_⟩
        have : z = maxL m t := Int.le_antisymm (h2 z hz) (hb _ h1)
        subst this
        exact k _ _ (.pure (.int _))
theorem blt_min (hc : X.calm = true) : CallR X (.builtin "min") (rBs X.K (bltS .min)) := by
  intro pins s σ H xs us Q I rs h
  obtain ⟨Z, ps, d, bs, e, k⟩ := h
  match ps, e with
  | [.int i, .int j], e =>
    obtain ⟨v, w, rfl, b1, b2⟩ := bs.two
    obtain rfl := b1.int; obtain rfl := b2.int
    cases e
    exact call_min2 hc pins s σ H _ us Q I rs ⟨i, j, rfl, k _ _ (.pure (.int _))⟩
  | [.list ys], e =>
    obtain ⟨v, rfl, b⟩ := bs.one
    obtain ⟨a, vs, rfl, hs, r⟩ := b.list
    have e' : (match intsOf ys with | some (m :: r) => some (D.p (.int (minL m r))) | _ => none) = some d := e
    cases e1 : intsOf ys with
    | none => rw [e1] at e'; cases e'
    | some ns =>
      cases ns with
      | nil => rw [e1] at e'; cases e'
      | cons m t =>
        rw [e1] at e'; cases e'
        obtain rfl := intsOf_rp r e1
        obtain ⟨h1, h2⟩ := minL_mem t m
        refine cr_min hc pins s σ H _ us Q I rs ⟨a, m :: t, rfl, hs, Nat.zero_lt_succ _, fun z hz hb => ?_⟩
        have : z = minL m t := Int.le_antisymm (hb _ h1) (h2 z hz)
        subst this
        exact k _ _ (.pure (.int _))
theorem blt_D (b : Blt) (hc : X.calm = true) : CallR X b.val (rBs X.K (bltS b)) := by
  cases b
  · exact blt_len
  · exact blt_tuple
  · exact blt_list
  · exact blt_abs
  · exact blt_int
  · exact blt_sum hc
  · exact blt_max hc
  · exact blt_min hc
  · exact blt_any hc
  · exact blt_all hc
theorem Blt.boot (b : Blt) : bootBuiltins b.id = some b.val := by cases b <;> decide +kernel
theorem Blt.name (b : Blt) : (b.id : Str) ≠ "__name__" ∧ ((b.id : Str) == ("__debug__" : Str)) = false := by cases b <;> decide +kernel

/-! ### methods that change a list -/
def Mth.id : Mth → String
  | .append => "list.append"
  | .pop => "list.pop"
  | .popAt => "list.pop"
  | .extend => "list.extend"
def Mth.nm : Mth → String
  | .append => "append"
  | .pop => "pop"
  | .popAt => "pop"
  | .extend => "extend"
def rM (K : PySem.W.Frag) (m : Mth) : V → List V → Hp → VK → Prop := fun x vs H Q => ∃ (Z : Addr → Prop) (a : Addr) (ws : List V) (xs ys : List PyData) (y : PyData) (xs' : List PyData), x = .ref a ∧ H a = some (.lst ws) ∧ ¬ Z a ∧ RPs K Z H ws xs ∧ RPs K Z H vs ys ∧ mthS m xs ys = some (y, xs') ∧
  ∀ v ws', RP K Z H v y → RPs K Z H ws' xs' → Q v (upd H a (.lst ws'))
theorem list_extW (l : Addr) (items : Array Value) (n : Nat) (b : Addr) (items2 : Array Value) (n2 : Nat) (sl2 : Array (Option Value)) (hc0 : ¬(!items.isEmpty && Builtin.List.listTooLong (items.size + items2.size)) = true) (hc1 : items.size ≤ sizeLine) (hs2 : items.size + items2.size ≤ sizeLine + 1) :
    Meets (Builtin.«list.extend» ⟨[.ref l, .ref b], []⟩) (fun _ R s => s.heap.get? l = some { cls := .type "list", dict := none, data := .seq items n, slots := #[] } ∧ s.heap.get? b = some { cls := .type "list", dict := none, data := .seq items2 n2, slots := sl2 } ∧ R (.ok (.ret Value.none)) { s with heap := s.heap.update l (Obj.mapSeq fun x => x ++ items2), toks := s.toks }) :=
  .of_wp fun prog w A R s h => by
    obtain ⟨hp, g, d, tk, os⟩ := s; obtain ⟨hl, hb, h⟩ := h; have f1 := AutoSeq1.idx_int; have f2 := AutoSeq1.sub_tuple_tuple; have f3 := AutoSeq1.sub_list_list; have f4 := AutoSeq1.sub_tuple_list; have f5 := AutoSeq1.sub_list_tuple;
    have hz' : (items ++ items2).size ≤ sizeLine + 1 := by rw [Array.size_append]; exact hs2
    wp_walk using (wpAny_updateSeq hl rfl (hz := hc1) (_hz' := hz')), AutoSeq1.wpAny_loadPart' hl, AutoSeq1.wpAny_loadPart' hb; exact ⟨_, rfl, h⟩
theorem op_extL : MtM X "list.extend" (fun x vs H Q => ∃ l b xs zs, x = .ref l ∧ vs = [.ref b] ∧ H l = some (.lst xs) ∧ SqL X.K H b zs ∧ xs.length + zs.length ≤ sizeLine ∧ Q .non (upd H l (.lst (xs ++ zs)))) := by
  intro pins s σ H x vs v us Q I rx rv h
  obtain ⟨l, b, xs, zs, rfl, rfl, hH, hB, hz, q⟩ := h
  cases rx
  obtain ⟨u, rfl, ru⟩ := rv.one
  cases ru
  obtain ⟨z, its, n, r, hl, e⟩ := I.lstM hH
  obtain ⟨z2, its2, n2, sl2, r2, hl2, e2⟩ := rdL I hB
  have hsz : its.toArray.size + its2.toArray.size ≤ sizeLine := by rw [List.size_toArray, List.size_toArray]; omega
  have hlong : ¬ (!its.toArray.isEmpty && Builtin.List.listTooLong (its.toArray.size + its2.toArray.size)) = true := by
    rw [notLongL hsz, Bool.and_false]
    exact Bool.false_ne_true
  refine call_meets F.slot_list_extend ⟨_, e, rfl⟩ F.entry_list_extend (F.args_list_extend_2 _ _)
    (list_extW l its.toArray n b its2.toArray n2 sl2 hlong (by rw [List.size_toArray]; omega) (by omega)) ⟨e, e2, ?_⟩
  refine ⟨.non, _, I.lset (its' := its ++ its2) hH e (by simp) (r.append r2) ?_, rfl, q⟩
  rw [List.length_append]
  omega
theorem RPs.one {K : PySem.W.Frag} {Z : Addr → Prop} {H : Hp} {vs : List V} {x : PyData} (h : RPs K Z H vs [x]) : ∃ v, vs = [v] ∧ RP K Z H v x := by
  cases h with | cons r t => cases t; exact ⟨_, rfl, r⟩
theorem mth_D (m : Mth) : MtR X m.id (rM X.K m) := by
  intro pins s σ H x vs v us Q I rx rv h
  obtain ⟨Z, a, ws, xs, ys, y, xs', rfl, hH, nz, r, ra, e, k⟩ := h
  have hl := r.length
  cases m with
  | append =>
    match ys, e with
    | [z], e =>
      obtain ⟨w, rfl, rz⟩ := ra.one
      obtain ⟨hc, e⟩ := ite_some e
      cases e
      exact mt_append pins s σ H _ _ v us Q I rx rv ⟨a, ws, w, rfl, rfl, hH, by rw [hl]; exact of_decide_eq_true hc, k _ _ .non (r.append (.cons rz .nil))⟩
  | pop =>
    match ys, e with
    | [], e =>
      cases ra
      obtain ⟨z, e1, e2⟩ := Option.map_eq_some_iff.mp e
      cases e2
      obtain ⟨w, h1, h2⟩ := r.get e1
      exact mt_pop pins s σ H _ _ v us Q I rx rv ⟨a, ws, w, rfl, rfl, hH, by rw [hl]; exact h1, k _ _ h2 r.dropLast⟩
  | popAt =>
    match ys, e with
    | [.int i], e =>
      obtain ⟨w, rfl, rz⟩ := ra.one
      cases rz
      have e' : (if (decide (-(2 ^ 63) ≤ i) && decide (i < 2 ^ 63)) = true then (ixN xs.length i).bind fun k => (xs[k]?).map fun y => (y, xs.eraseIdx k) else none) = some (y, xs') := e
      by_cases hc : (decide (-(2 ^ 63) ≤ i) && decide (i < 2 ^ 63)) = true
      · rw [if_pos hc] at e'
        rw [Bool.and_eq_true, decide_eq_true_eq, decide_eq_true_eq] at hc
        obtain ⟨j, e1, e2⟩ := Option.bind_eq_some_iff.mp e'
        obtain ⟨z, e3, e4⟩ := Option.map_eq_some_iff.mp e2
        cases e4
        obtain ⟨w, h1, h2⟩ := r.get e3
        exact mt_popAt pins s σ H _ _ v us Q I rx rv ⟨a, ws, i, j, w, rfl, rfl, hH, hc.1, hc.2, by rw [hl]; exact (ixN_seq e1).1, h1, k _ _ h2 (r.erase _)⟩
      · rw [if_neg hc] at e'; cases e'
  | extend =>
    match ys, e with
    | [.list zs], e =>
      obtain ⟨w, rfl, rz⟩ := ra.one
      obtain ⟨hc, e⟩ := ite_some e
      cases e
      cases rz with
      | lst hs rs =>
        have l2 := rs.length
        exact op_extL pins s σ H _ _ v us Q I rx rv ⟨a, _, ws, _, rfl, rfl, hH, hs.sq, by have := fits_le hc; omega, k _ _ .non (r.append rs)⟩
theorem Mth.slot (m : Mth) : Slot "list" (m.nm : Str) m.id := by
  cases m
  · exact PySem.F.slot_list_append
  · exact PySem.F.slot_list_pop
  · exact PySem.F.slot_list_pop
  · exact PySem.F.slot_list_extend
theorem Mth.type (m : Mth) : typeOf (.builtin m.id) = pure (.type "method_descriptor") := by
  cases m
  · exact PySem.F.type_list_append
  · exact PySem.F.type_list_pop
  · exact PySem.F.type_list_pop
  · exact PySem.F.type_list_extend

/-! ### x[i] = e -/
theorem set_D {H : Hp} {Z : Addr → Prop} {a : Addr} {ws : List V} {xs xs' : List PyData} {i x : PyData} {vi vx : V} {Q : Hp → Prop}
    (hH : H a = some (.lst ws)) (r : RPs X.K Z H ws xs) (ri : RP X.K Z H vi i) (rx : RP X.K Z H vx x) (e : setItemS xs i x = some xs') (k : ∀ ws', RPs X.K Z H ws' xs' → Q (upd H a (.lst ws'))) :
    rSetL (.ref a) vi vx H Q := by
  cases i with
  | int n =>
    obtain ⟨j, e1, e2⟩ := Option.map_eq_some_iff.mp (show (ixN xs.length n).map (fun j => xs.set j x) = some xs' from e)
    subst e2
    cases ri
    exact ⟨a, ws, n, j, rfl, rfl, hH, by rw [r.length]; exact e1, k _ (RPs.set rx j r)⟩
  | _ => cases e
/-! ### isinstance -/
theorem ty_of {K : PySem.W.Frag} {Z : Addr → Prop} {H : Hp} {x : PyData} {v : V} (b : RB K Z H v x) (nd : ∀ kvs, x ≠ .dict kvs) : TyX K H v (.type (tyName x)) := by
  cases x with
  | none => obtain rfl := b.none; exact .base .non
  | bool i => obtain rfl := b.bool; exact .base (.bl _)
  | int i => obtain rfl := b.int; exact .base (.int _)
  | str i => obtain rfl := b.str; exact .base (.str _)
  | list xs =>
    obtain ⟨a, vs, rfl, hs, r⟩ := b.list
    rcases hs with (h | ⟨o, h⟩) | ⟨o, its, n, h, hc, _⟩
    · exact .base (.lst h)
    · exact .base (.frz h)
    · exact .kList h hc
  | tuple xs => 
    obtain ⟨a, vs, rfl, hs, r⟩ := b.tuple
    rcases hs with (h | ⟨o, h⟩) | ⟨o, its, n, h, hc, _⟩
    · exact .base (.tup h)
    · exact .fTuple h
    · exact .kTuple h hc
  | dict kvs => exact absurd rfl (nd kvs)
theorem isi_ok {T : Ty} {x : PyData} {b : Bool} (e : isiS T x = some b) : kitB (tyName x) T.name = some b ∧ ∀ kvs, x ≠ .dict kvs := by
  cases T <;> cases x <;> first | (cases e; done) | (cases e; exact ⟨by dsimp only [tyName]; decide +kernel, fun _ q => nomatch q⟩)
end
end Pv

set_option Elab.async false
set_option linter.all false
set_option maxRecDepth 100000
set_option maxHeartbeats 4000000
/-! EvD: what an expression's reading is, and how readings are put together. -/
namespace Pv
open PySem PySem.Spec PyProof.Rows L2
def tV (K : PySem.W.Frag) (f : EV → Option (D × EV)) : TE := fun σ H Q => ∃ Z ρ d ρ', RS K Z H σ ρ ∧ f ρ = some (d, ρ') ∧ ∀ v H' Z', After K Z H σ ρ ρ' Z' H' → RD K Z' H' v d → OwnNew H σ ρ ρ' v d → Q v H'
def tO (K : PySem.W.Frag) (f : EV → Option (Opd × EV)) : TE := fun σ H Q => ∃ Z ρ d ρ', RS K Z H σ ρ ∧ f ρ = some (d, ρ') ∧ ∀ v H' Z', After K Z H σ ρ ρ' Z' H' → OV K Z' H' σ v d → Q v H'
def tP (K : PySem.W.Frag) (f : EV → Option (PyData × EV)) : TE := fun σ H Q => ∃ Z ρ d ρ', RS K Z H σ ρ ∧ f ρ = some (d, ρ') ∧ ∀ v H' Z', After K Z H σ ρ ρ' Z' H' → RP K Z' H' v d → Q v H'
def tT (K : PySem.W.Frag) (f : EV → Option (Bool × EV)) : TT := fun σ H Q => ∃ Z ρ d ρ', RS K Z H σ ρ ∧ f ρ = some (d, ρ') ∧ ∀ H' Z', After K Z H σ ρ ρ' Z' H' → Q d H'
def tOs (K : PySem.W.Frag) (f : EV → Option (List Opd × EV)) : TA := fun σ H Q => ∃ Z ρ d ρ', RS K Z H σ ρ ∧ f ρ = some (d, ρ') ∧ ∀ v H' Z', After K Z H σ ρ ρ' Z' H' → OVs K Z' H' σ v d → Q v H'
def tPs (K : PySem.W.Frag) (f : EV → Option (List PyData × EV)) : TA := fun σ H Q => ∃ Z ρ d ρ', RS K Z H σ ρ ∧ f ρ = some (d, ρ') ∧ ∀ v H' Z', After K Z H σ ρ ρ' Z' H' → RPs K Z' H' v d → Q v H'

theorem PE.imp {X : Cx} {e : Expr} {t t' : TE} (h : PE X e t) (w : ∀ σ H Q, t' σ H Q → t σ H Q) : PE X e t' := ⟨fun pins s σ H Q I q => h.run pins s σ H Q I (w _ _ _ q)⟩
theorem PT.imp {X : Cx} {e : Expr} {t t' : TT} (h : PT X e t) (w : ∀ σ H Q, t' σ H Q → t σ H Q) : PT X e t' := ⟨fun pins s σ H Q I q => h.run pins s σ H Q I (w _ _ _ q)⟩
theorem PW.imp {X : Cx} {e : Expr} {t t' : TT} (h : PW X e t) (w : ∀ σ H Q, t' σ H Q → t σ H Q) : PW X e t' := ⟨fun wh pins s σ H Q I q => h.run wh pins s σ H Q I (w _ _ _ q)⟩
theorem PA.imp {X : Cx} {e : List Expr} {t t' : TA} (h : PA X e t) (w : ∀ σ H Q, t' σ H Q → t σ H Q) : PA X e t' := ⟨fun pos pins s σ H Q I q => h.run pos pins s σ H Q I (w _ _ _ q)⟩
theorem PS.imp {X : Cx} {e : Stmt} {t t' : TS} (h : PS X e t) (w : ∀ D σ H, t' D σ H → t D σ H) : PS X e t' := ⟨fun pins s σ H D I q => h.run pins s σ H D I (w _ _ _ q)⟩
theorem PSs.imp {X : Cx} {e : List Stmt} {t t' : TS} (h : PSs X e t) (w : ∀ D σ H, t' D σ H → t D σ H) : PSs X e t' := ⟨fun pins s σ H D I q => h.run pins s σ H D I (w _ _ _ q)⟩

section
variable {K : PySem.W.Frag} {σ : L2.St} {H : Hp} {Q : VK} {Z : Addr → Prop} {ρ : EV}
/-- an operation's new value -/
theorem NewD.fin {Z2 : Addr → Prop} {H2 H3 : Hp} {ρ2 : EV} {v : V} {d : D} (A : After K Z H σ ρ ρ2 Z2 H2) (n : NewD K Z2 H2 v H3 d) : After K Z H σ ρ ρ2 Z2 H3 ∧ RD K Z2 H3 v d ∧ OwnNew H σ ρ ρ2 v d := by
  obtain ⟨hs, hd⟩ := n
  have A3 := A.trans (After.same A.rs hs)
  cases d with
  | p x => exact ⟨A3, hd, fun xs a e => nomatch e⟩
  | own xs =>
    obtain ⟨p, vs, rfl, h1, h2, h3⟩ := hd
    refine ⟨A3, ⟨p, vs, rfl, h2, A.rs.noZ h1, h3⟩, fun ys a e1 e2 => ?_⟩
    cases e2
    refine ⟨A.rs.noOW h1, ?_⟩
    by_cases ho : OW σ ρ p
    · exact .inl ho
    · cases e : H p with
      | none => exact .inr rfl
      | some o => rw [A.st.keep p o e ho] at h1; cases h1
theorem tP_of {m : M} (h : tP K m.p σ H Q) : tV K m.v σ H Q := by
  obtain ⟨Z, ρ, d, ρ', R, e, k⟩ := h
  obtain ⟨⟨c, ρ1⟩, e1, e2⟩ := Option.map_eq_some_iff.mp e
  cases e2
  refine ⟨Z, ρ, c, ρ', R, e1, fun v H' Z' A r n => ?_⟩
  obtain ⟨Z2, A2, r2⟩ := OwnNew.share R A r n
  exact k v H' Z2 A2 r2
theorem tO_of {f : EV → Option (D × EV)} (h : tO K (oOfV f) σ H Q) : tV K f σ H Q := by
  obtain ⟨Z, ρ, d, ρ', R, e, k⟩ := h
  obtain ⟨⟨c, ρ1⟩, e1, e2⟩ := Option.map_eq_some_iff.mp e
  cases e2
  refine ⟨Z, ρ, c, ρ', R, e1, fun v H' Z' A r n => ?_⟩
  obtain ⟨Z2, A2, r2⟩ := OwnNew.share R A r n
  exact k v H' Z2 A2 r2
theorem tT_of {f : EV → Option (D × EV)} {Q : Bool → Hp → Prop} (h : tT K (tOfV f) σ H Q) : tV K f σ H fun x H' => ∃ k, TruV K x H' k ∧ Q k H' := by
  obtain ⟨Z, ρ, d, ρ', R, e, k⟩ := h
  obtain ⟨⟨c, ρ1⟩, e1, e2⟩ := Option.bind_eq_some_iff.mp e
  obtain ⟨b, e3, e4⟩ := Option.map_eq_some_iff.mp e2
  cases e4
  refine ⟨Z, ρ, c, ρ', R, e1, fun v H' Z' A r n => ⟨d, truthD r.rb e3, k H' Z' A⟩⟩
theorem tVT_of {f : EV → Option (Bool × EV)} (h : tV K (vOfT f) σ H Q) : tT K f σ H fun b H' => Q (.bl b) H' := by
  obtain ⟨Z, ρ, d, ρ', R, e, k⟩ := h
  obtain ⟨⟨c, ρ1⟩, e1, e2⟩ := Option.map_eq_some_iff.mp e
  cases e2
  exact ⟨Z, ρ, c, ρ', R, e1, fun H' Z' A => k _ H' Z' A (.bl c) fun xs a e => nomatch e⟩
/-! ### operations -/
theorem bin2_of {f : PyData → PyData → Option D} {a b : EV → Option (Opd × EV)} (h : tV K (bin2 f a b) σ H Q) : tOp (rB K f) (tO K a) (tO K b) σ H Q := by
  obtain ⟨Z, ρ, d, ρ', R, e, k⟩ := h
  obtain ⟨⟨x, ρ1⟩, e1, e⟩ := Option.bind_eq_some_iff.mp e
  obtain ⟨⟨y, ρ2⟩, e2, e⟩ := Option.bind_eq_some_iff.mp e
  obtain ⟨px, e3, e⟩ := Option.bind_eq_some_iff.mp e
  obtain ⟨py, e4, e⟩ := Option.bind_eq_some_iff.mp e
  obtain ⟨d', e5, e6⟩ := Option.map_eq_some_iff.mp e
  cases e6
  refine ⟨Z, ρ, x, ρ1, R, e1, fun v1 H1 Z1 A1 o1 => ⟨Z1, ρ1, y, ρ', A1.rs, e2, fun v2 H2 Z2 A2 o2 => ⟨Z2, px, py, d, (o1.after A2 A1.rs).rb A2.rs e3, o2.rb A2.rs e4, e5, fun v H3 n => ?_⟩⟩⟩
  obtain ⟨A3, r, o⟩ := NewD.fin (A1.trans A2) n
  exact k v H3 Z2 A3 r o
theorem cmp2_of {f : PyData → PyData → Option Bool} {a b : EV → Option (Opd × EV)} {Q : Bool → Hp → Prop} (h : tT K (cmp2 f a b) σ H Q) : tOp (rC K f) (tO K a) (tO K b) σ H (fun x H' => ∃ k, x = .bl k ∧ Q k H') := by
  obtain ⟨Z, ρ, d, ρ', R, e, k⟩ := h
  obtain ⟨⟨x, ρ1⟩, e1, e⟩ := Option.bind_eq_some_iff.mp e
  obtain ⟨⟨y, ρ2⟩, e2, e⟩ := Option.bind_eq_some_iff.mp e
  obtain ⟨px, e3, e⟩ := Option.bind_eq_some_iff.mp e
  obtain ⟨py, e4, e⟩ := Option.bind_eq_some_iff.mp e
  obtain ⟨d', e5, e6⟩ := Option.map_eq_some_iff.mp e
  cases e6
  exact ⟨Z, ρ, x, ρ1, R, e1, fun v1 H1 Z1 A1 o1 => ⟨Z1, ρ1, y, ρ', A1.rs, e2, fun v2 H2 Z2 A2 o2 => ⟨Z2, px, py, d, (o1.after A2 A1.rs).rb A2.rs e3, o2.rb A2.rs e4, e5, d, rfl, k H2 Z2 (A1.trans A2)⟩⟩⟩
theorem tOp_mono {r : R2} {ta tb : TE} {Q' : VK} (hr : ∀ x y H (Q Q' : VK), (∀ v H, Q v H → Q' v H) → r x y H Q → r x y H Q') (ha : ∀ σ H (Q Q' : VK), (∀ v H, Q v H → Q' v H) → ta σ H Q → ta σ H Q') (hb : ∀ σ H (Q Q' : VK), (∀ v H, Q v H → Q' v H) → tb σ H Q → tb σ H Q')
    (w : ∀ v H, Q v H → Q' v H) (h : tOp r ta tb σ H Q) : tOp r ta tb σ H Q' := ha _ _ _ _ (fun x H1 h1 => hb _ _ _ _ (fun y H2 h2 => hr _ _ _ _ _ w h2) h1) h
theorem tO_mono {f : EV → Option (Opd × EV)} (σ : L2.St) (H : Hp) (Q Q' : VK) (w : ∀ v H, Q v H → Q' v H) (h : tO K f σ H Q) : tO K f σ H Q' := by
  obtain ⟨Z, ρ, d, ρ', R, e, k⟩ := h
  exact ⟨Z, ρ, d, ρ', R, e, fun v H' Z' A o => w _ _ (k v H' Z' A o)⟩
theorem rC_mono {f : PyData → PyData → Option Bool} (x y : V) (H : Hp) (Q Q' : VK) (w : ∀ v H, Q v H → Q' v H) (h : rC K f x y H Q) : rC K f x y H Q' := by
  obtain ⟨Z, px, py, b, bx, by_, e, k⟩ := h
  exact ⟨Z, px, py, b, bx, by_, e, w _ _ k⟩
theorem chain3_of {f g : PyData → PyData → Option Bool} {a b c : EV → Option (Opd × EV)} {Q : Bool → Hp → Prop} (h : tT K (chain3 f g a b c) σ H Q) : tChain (rC K f) (rC K g) (tO K a) (tO K b) (tO K c) σ H (fun x H' => ∃ k, x = .bl k ∧ Q k H') := by
  obtain ⟨Z, ρ, d, ρ', R, e, k⟩ := h
  obtain ⟨⟨x, ρ1⟩, e1, e⟩ := Option.bind_eq_some_iff.mp e
  obtain ⟨⟨y, ρ2⟩, e2, e⟩ := Option.bind_eq_some_iff.mp e
  obtain ⟨px, e3, e⟩ := Option.bind_eq_some_iff.mp e
  obtain ⟨py, e4, e⟩ := Option.bind_eq_some_iff.mp e
  obtain ⟨c1, e5, e⟩ := Option.bind_eq_some_iff.mp e
  refine ⟨Z, ρ, x, ρ1, R, e1, fun v1 H1 Z1 A1 o1 => ⟨Z1, ρ1, y, ρ2, A1.rs, e2, fun v2 H2 Z2 A2 o2 => ⟨Z2, px, py, c1, (o1.after A2 A1.rs).rb A2.rs e3, o2.rb A2.rs e4, e5, c1, rfl, ?_⟩⟩⟩
  cases c1 with
  | false =>
    cases e
    exact iteF ⟨false, rfl, k H2 Z2 (A1.trans A2)⟩
  | true =>
    have e' := (if_pos rfl).symm.trans e
    obtain ⟨⟨z, ρ3⟩, e6, e⟩ := Option.bind_eq_some_iff.mp e'
    obtain ⟨py', e7, e⟩ := Option.bind_eq_some_iff.mp e
    obtain ⟨pz, e8, e⟩ := Option.bind_eq_some_iff.mp e
    obtain ⟨d', e9, e10⟩ := Option.map_eq_some_iff.mp e
    cases e10
    exact iteT ⟨Z2, ρ2, z, ρ', A2.rs, e6, fun v3 H3 Z3 A3 o3 => ⟨Z3, py', pz, d, (o2.after A3 A2.rs).rb A3.rs e7, o3.rb A3.rs e8, e9, d, rfl, k H3 Z3 ((A1.trans A2).trans A3)⟩⟩
theorem un1_of {f : PyData → Option D} {a : EV → Option (Opd × EV)} (h : tV K (un1 f a) σ H Q) : tUn (rU1 K f) (tO K a) σ H Q := by
  obtain ⟨Z, ρ, d, ρ', R, e, k⟩ := h
  obtain ⟨⟨x, ρ1⟩, e1, e⟩ := Option.bind_eq_some_iff.mp e
  obtain ⟨px, e3, e⟩ := Option.bind_eq_some_iff.mp e
  obtain ⟨d', e5, e6⟩ := Option.map_eq_some_iff.mp e
  cases e6
  refine ⟨Z, ρ, x, ρ', R, e1, fun v1 H1 Z1 A1 o1 => ⟨Z1, px, d, o1.rb A1.rs e3, e5, fun v H3 n => ?_⟩⟩
  obtain ⟨A3, r, o⟩ := NewD.fin A1 n
  exact k v H3 Z1 A3 r o
theorem lst1_of {f : List PyData → Option D} {a : EV → Option (List Opd × EV)} (h : tV K (lst1 f a) σ H Q) : tCB (rBs K f) (tOs K a) σ H Q := by
  obtain ⟨Z, ρ, d, ρ', R, e, k⟩ := h
  obtain ⟨⟨x, ρ1⟩, e1, e⟩ := Option.bind_eq_some_iff.mp e
  obtain ⟨px, e3, e⟩ := Option.bind_eq_some_iff.mp e
  obtain ⟨d', e5, e6⟩ := Option.map_eq_some_iff.mp e
  cases e6
  refine ⟨Z, ρ, x, ρ', R, e1, fun v1 H1 Z1 A1 o1 => ⟨Z1, px, d, o1.rbs A1.rs e3, e5, fun v H3 n => ?_⟩⟩
  obtain ⟨A3, r, o⟩ := NewD.fin A1 n
  exact k v H3 Z1 A3 r o
/-- a value that was there -/
theorem OwnNew.p {ρ' : EV} {v : V} {x : PyData} : OwnNew H σ ρ ρ' v (.p x) := fun xs a e => nomatch e
theorem OwnNew.trans {Z1 : Addr → Prop} {H1 : Hp} {ρ1 ρ2 : EV} {v : V} {d : D} (A : After K Z H σ ρ ρ1 Z1 H1) (n : OwnNew H1 σ ρ1 ρ2 v d) : OwnNew H σ ρ ρ2 v d := fun xs a e1 e2 => by
  obtain ⟨h1, h2⟩ := n xs a e1 e2
  refine ⟨h1, ?_⟩
  rcases h2 with h | h
  · exact .inl (A.sub a h)
  · by_cases ho : OW σ ρ a
    · exact .inl ho
    · cases e : H a with
      | none => exact .inr rfl
      | some o => rw [A.st.keep a o e ho] at h; cases h
theorem andV_of {a : M} {b : EV → Option (D × EV)} (h : tV K (andV a.p b) σ H Q) : tAndT K (tP K a.p) (tV K b) σ H Q := by
  obtain ⟨Z, ρ, d, ρ', R, e, k⟩ := h
  obtain ⟨⟨x, ρ1⟩, e1, e⟩ := Option.bind_eq_some_iff.mp e
  obtain ⟨c, e3, e⟩ := Option.bind_eq_some_iff.mp e
  refine ⟨Z, ρ, x, ρ1, R, e1, fun v1 H1 Z1 A1 r1 => ⟨c, truthD (.of r1) e3, ?_⟩⟩
  cases c with
  | true => exact iteT ⟨Z1, ρ1, d, ρ', A1.rs, (if_pos rfl).symm.trans e, fun v2 H2 Z2 A2 r2 n2 => k v2 H2 Z2 (A1.trans A2) r2 (n2.trans A1)⟩
  | false =>
    cases e
    exact iteF (k v1 H1 Z1 A1 r1 .p)
theorem orV_of {a : M} {b : EV → Option (D × EV)} (h : tV K (orV a.p b) σ H Q) : tOrT K (tP K a.p) (tV K b) σ H Q := by
  obtain ⟨Z, ρ, d, ρ', R, e, k⟩ := h
  obtain ⟨⟨x, ρ1⟩, e1, e⟩ := Option.bind_eq_some_iff.mp e
  obtain ⟨c, e3, e⟩ := Option.bind_eq_some_iff.mp e
  refine ⟨Z, ρ, x, ρ1, R, e1, fun v1 H1 Z1 A1 r1 => ⟨c, truthD (.of r1) e3, ?_⟩⟩
  cases c with
  | false => exact iteF ⟨Z1, ρ1, d, ρ', A1.rs, e, fun v2 H2 Z2 A2 r2 n2 => k v2 H2 Z2 (A1.trans A2) r2 (n2.trans A1)⟩
  | true =>
    cases e
    exact iteT (k v1 H1 Z1 A1 r1 .p)
theorem andT_of {a b : EV → Option (Bool × EV)} {Q : Bool → Hp → Prop} (h : tT K (andT a b) σ H Q) : tAnd (tT K a) (tT K b) σ H Q := by
  obtain ⟨Z, ρ, d, ρ', R, e, k⟩ := h
  obtain ⟨⟨c, ρ1⟩, e1, e⟩ := Option.bind_eq_some_iff.mp e
  refine ⟨Z, ρ, c, ρ1, R, e1, fun H1 Z1 A1 => ?_⟩
  cases c with
  | true => exact iteT ⟨Z1, ρ1, d, ρ', A1.rs, (if_pos rfl).symm.trans e, fun H2 Z2 A2 => k H2 Z2 (A1.trans A2)⟩
  | false =>
    cases e
    exact iteF (k H1 Z1 A1)
theorem orT_of {a b : EV → Option (Bool × EV)} {Q : Bool → Hp → Prop} (h : tT K (orT a b) σ H Q) : tOr (tT K a) (tT K b) σ H Q := by
  obtain ⟨Z, ρ, d, ρ', R, e, k⟩ := h
  obtain ⟨⟨c, ρ1⟩, e1, e⟩ := Option.bind_eq_some_iff.mp e
  refine ⟨Z, ρ, c, ρ1, R, e1, fun H1 Z1 A1 => ?_⟩
  cases c with
  | false => exact iteF ⟨Z1, ρ1, d, ρ', A1.rs, e, fun H2 Z2 A2 => k H2 Z2 (A1.trans A2)⟩
  | true =>
    cases e
    exact iteT (k H1 Z1 A1)
theorem notT_of {a : EV → Option (Bool × EV)} {Q : Bool → Hp → Prop} (h : tT K (notT a) σ H Q) : tNot (tT K a) σ H Q := by
  obtain ⟨Z, ρ, d, ρ', R, e, k⟩ := h
  obtain ⟨⟨c, ρ1⟩, e1, e2⟩ := Option.map_eq_some_iff.mp e
  cases e2
  exact ⟨Z, ρ, c, ρ', R, e1, fun H1 Z1 A1 => k H1 Z1 A1⟩
theorem ifV_of {t : EV → Option (Bool × EV)} {a b : EV → Option (D × EV)} (h : tV K (ifV t a b) σ H Q) : tIf (tT K t) (tV K a) (tV K b) σ H Q := by
  obtain ⟨Z, ρ, d, ρ', R, e, k⟩ := h
  obtain ⟨⟨c, ρ1⟩, e1, e⟩ := Option.bind_eq_some_iff.mp e
  refine ⟨Z, ρ, c, ρ1, R, e1, fun H1 Z1 A1 => ?_⟩
  cases c with
  | true => exact iteT ⟨Z1, ρ1, d, ρ', A1.rs, (if_pos rfl).symm.trans e, fun v2 H2 Z2 A2 r2 n2 => k v2 H2 Z2 (A1.trans A2) r2 (n2.trans A1)⟩
  | false => exact iteF ⟨Z1, ρ1, d, ρ', A1.rs, e, fun v2 H2 Z2 A2 r2 n2 => k v2 H2 Z2 (A1.trans A2) r2 (n2.trans A1)⟩
/-! ### lists of expressions -/
theorem consO_of {a : EV → Option (Opd × EV)} {b : EV → Option (List Opd × EV)} {Q : List V → Hp → Prop} (h : tOs K (fun ρ => (a ρ).bind fun (o, ρ1) => (b ρ1).map fun (os, ρ2) => (o :: os, ρ2)) σ H Q) : tCons (tO K a) (tOs K b) σ H Q := by
  obtain ⟨Z, ρ, d, ρ', R, e, k⟩ := h
  obtain ⟨⟨x, ρ1⟩, e1, e⟩ := Option.bind_eq_some_iff.mp e
  obtain ⟨⟨xs, ρ2⟩, e2, e3⟩ := Option.map_eq_some_iff.mp e
  cases e3
  exact ⟨Z, ρ, x, ρ1, R, e1, fun v1 H1 Z1 A1 o1 => ⟨Z1, ρ1, xs, ρ', A1.rs, e2, fun v2 H2 Z2 A2 o2 => k _ H2 Z2 (A1.trans A2) (.cons (o1.after A2 A1.rs) o2)⟩⟩
theorem consP_of {a : EV → Option (PyData × EV)} {b : EV → Option (List PyData × EV)} {Q : List V → Hp → Prop} (h : tPs K (fun ρ => (a ρ).bind fun (o, ρ1) => (b ρ1).map fun (os, ρ2) => (o :: os, ρ2)) σ H Q) : tCons (tP K a) (tPs K b) σ H Q := by
  obtain ⟨Z, ρ, d, ρ', R, e, k⟩ := h
  obtain ⟨⟨x, ρ1⟩, e1, e⟩ := Option.bind_eq_some_iff.mp e
  obtain ⟨⟨xs, ρ2⟩, e2, e3⟩ := Option.map_eq_some_iff.mp e
  cases e3
  exact ⟨Z, ρ, x, ρ1, R, e1, fun v1 H1 Z1 A1 o1 => ⟨Z1, ρ1, xs, ρ', A1.rs, e2, fun v2 H2 Z2 A2 o2 => k _ H2 Z2 (A1.trans A2) (.cons (A2.rp A1.rs o1) o2)⟩⟩
theorem nilO_of {Q : List V → Hp → Prop} (h : tOs K (fun ρ => some ([], ρ)) σ H Q) : tNil σ H Q := by
  obtain ⟨Z, ρ, d, ρ', R, e, k⟩ := h
  cases e
  exact k [] H Z (.refl R) .nil
theorem nilP_of {Q : List V → Hp → Prop} (h : tPs K (fun ρ => some ([], ρ)) σ H Q) : tNil σ H Q := by
  obtain ⟨Z, ρ, d, ρ', R, e, k⟩ := h
  cases e
  exact k [] H Z (.refl R) .nil
theorem tup_of {b : EV → Option (List PyData × EV)} (h : tV K (fun ρ => (b ρ).bind fun (xs, ρ1) => if fits xs.length = true then some (.p (.tuple xs), ρ1) else none) σ H Q) : tTup (tPs K b) σ H Q := by
  obtain ⟨Z, ρ, d, ρ', R, e, k⟩ := h
  obtain ⟨⟨x, ρ1⟩, e1, e⟩ := Option.bind_eq_some_iff.mp e
  obtain ⟨hc, e⟩ := ite_some e
  cases e
  refine ⟨Z, ρ, x, ρ', R, e1, fun v1 H1 Z1 A1 r1 => ⟨by rw [r1.length]; exact fits_le hc, fun p hp => ?_⟩⟩
  obtain ⟨A3, r, o⟩ := NewD.fin A1 (.tup hp r1)
  exact k _ _ Z1 A3 r o
theorem lst_of {b : EV → Option (List PyData × EV)} (h : tV K (fun ρ => (b ρ).bind fun (xs, ρ1) => if fits xs.length = true then some (.own xs, ρ1) else none) σ H Q) : tLst (tPs K b) σ H Q := by
  obtain ⟨Z, ρ, d, ρ', R, e, k⟩ := h
  obtain ⟨⟨x, ρ1⟩, e1, e⟩ := Option.bind_eq_some_iff.mp e
  obtain ⟨hc, e⟩ := ite_some e
  cases e
  refine ⟨Z, ρ, x, ρ', R, e1, fun v1 H1 Z1 A1 r1 => ⟨by rw [r1.length]; exact fits_le hc, fun p hp => ?_⟩⟩
  obtain ⟨A3, r, o⟩ := NewD.fin A1 (.lst hp r1)
  exact k _ _ Z1 A3 r o
/-! ### names -/
theorem con_of {c : PyData} {v : V} (hc : ∀ Z H, RP K Z H v c) (h : tV K (fun ρ => some (.p c, ρ)) σ H Q) : tC v σ H Q := by
  obtain ⟨Z, ρ, d, ρ', R, e, k⟩ := h
  cases e
  exact k v H Z (.refl R) (hc Z H) .p
theorem varO_of {i : Nat} (h : tO K (fun ρ => opV ρ i) σ H Q) : tVar i σ H Q := by
  obtain ⟨Z, ρ, d, ρ', R, e, k⟩ := h
  have e : opV ρ i = some (d, ρ') := e
  cases hi : ρ[i]? with
  | none => unfold opV at e; rw [hi] at e; cases e
  | some od =>
    cases od with
    | none => unfold opV at e; rw [hi] at e; cases e
    | some y =>
      unfold opV at e; rw [hi] at e; cases e
      obtain ⟨v, hv, _⟩ := R.get i y hi
      exact ⟨v, hv, k v H Z (.refl R) hv⟩
theorem frz_of {i : Nat} (h : tV K (fun ρ => (frz ρ i).map fun (x, ρ') => (.p x, ρ')) σ H Q) : tVar i σ H Q := by
  obtain ⟨Z, ρ, d, ρ', R, e, k⟩ := h
  obtain ⟨⟨x, ρ1⟩, e1, e2⟩ := Option.map_eq_some_iff.mp e
  cases e2
  cases hi : ρ[i]? with
  | none => unfold frz at e1; rw [hi] at e1; cases e1
  | some od =>
    cases od with
    | none => unfold frz at e1; rw [hi] at e1; cases e1
    | some d =>
      obtain ⟨v, hv, r⟩ := R.get i d hi
      cases d with
      | p y =>
        unfold frz at e1; rw [hi] at e1; cases e1
        exact ⟨v, hv, k v H Z (.refl R) r .p⟩
      | own ys =>
        unfold frz at e1; rw [hi] at e1; cases e1
        obtain ⟨a, vs, rfl, h1, h2, h3⟩ := r
        have ho : OW σ ρ a := ⟨i, ys, hi, hv⟩
        have R1 : RS K Z H σ (ρ.set i none) := R.forget i
        have no : ¬ OW σ (ρ.set i none) a := fun ⟨j, zs, q1, q2⟩ => by
          rcases get_set q1 with ⟨_, q, _⟩ | ⟨nj, q1⟩
          · cases q
          · exact nj (R.ne j i zs ys a q1 hi q2 hv)
        have R2 := R1.addZ h1 h2 no
        have R3 := R2.tell (i := i) (d := .p (.list ys)) hv (.lst (.inl ⟨.inr rfl, h1⟩) (h3.addZ h1 h2)) (fun _ _ q => nomatch q)
        rw [List.set_set] at R3
        refine ⟨.ref a, hv, k _ H (addZ Z a) ⟨R3, Step.refl.addZ (.inl ho), fun b ⟨j, zs, q1, q2⟩ => ?_⟩ (.lst (.inl ⟨.inr rfl, h1⟩) (h3.addZ h1 h2)) .p⟩
        rcases get_set q1 with ⟨_, q, _⟩ | ⟨nj, q1⟩
        · cases q
        · exact ⟨j, zs, q1, q2⟩
theorem take_of {i : Nat} (h : tV K (fun ρ => take ρ i) σ H Q) : tVar i σ H Q := by
  obtain ⟨Z, ρ, d, ρ', R, e, k⟩ := h
  have e : take ρ i = some (d, ρ') := e
  cases hi : ρ[i]? with
  | none => unfold take at e; rw [hi] at e; cases e
  | some od =>
    cases od with
    | none => unfold take at e; rw [hi] at e; cases e
    | some d =>
      obtain ⟨v, hv, r⟩ := R.get i d hi
      cases d with
      | p y =>
        unfold take at e; rw [hi] at e; cases e
        exact ⟨v, hv, k v H Z (.refl R) r .p⟩
      | own ys =>
        unfold take at e; rw [hi] at e; cases e
        have sub : ∀ b, OW σ (ρ.set i none) b → OW σ ρ b := fun b ⟨j, zs, q1, q2⟩ => by
          rcases get_set q1 with ⟨_, q, _⟩ | ⟨nj, q1⟩
          · cases q
          · exact ⟨j, zs, q1, q2⟩
        refine ⟨v, hv, k v H Z ⟨R.forget i, Step.refl, sub⟩ r fun xs a e1 e2 => ?_⟩
        subst e2
        refine ⟨fun ⟨j, zs, q1, q2⟩ => ?_, .inl ⟨i, ys, hi, hv⟩⟩
        rcases get_set q1 with ⟨_, q, _⟩ | ⟨nj, q1⟩
        · cases q
        · exact nj (R.ne j i zs ys a q1 hi q2 hv)
/-! ### slices -/
def tPt (K : PySem.W.Frag) (f : EV → Option (Option Int × EV)) : TO := fun σ H Q => ∃ Z ρ d ρ', RS K Z H σ ρ ∧ f ρ = some (d, ρ') ∧ ∀ H' Z', After K Z H σ ρ ρ' Z' H' → Q d H'
theorem partN_of {m : M} (hm : m.isNil = true) {Q : Option Int → Hp → Prop} (h : tPt K (partI m) σ H Q) : tNoPart σ H Q := by
  obtain ⟨Z, ρ, d, ρ', R, e, k⟩ := h
  unfold partI at e
  rw [if_pos hm] at e
  cases e
  exact k H Z (.refl R)
theorem partS_of {m : M} (hm : m.isNil = false) {Q : Option Int → Hp → Prop} (h : tPt K (partI m) σ H Q) : tPart (tV K m.v) σ H Q := by
  obtain ⟨Z, ρ, d, ρ', R, e, k⟩ := h
  unfold partI at e
  rw [if_neg (by rw [hm]; exact Bool.false_ne_true)] at e
  obtain ⟨⟨c, ρ1⟩, e1, e⟩ := Option.bind_eq_some_iff.mp e
  cases c with
  | p x =>
    cases x with
    | int i =>
      cases e
      refine ⟨Z, ρ, .p (.int i), ρ', R, e1, fun v H' Z' A r n => ?_⟩
      cases r
      exact ⟨i, rfl, k H' Z' A⟩
    | _ => cases e
  | own _ => cases e
theorem slV_of {a : EV → Option (Opd × EV)} {lo hi : M} (h : tV K (slV a lo hi) σ H Q) : tSl (rSl K) (tO K a) (tPt K (partI lo)) (tPt K (partI hi)) σ H Q := by
  obtain ⟨Z, ρ, d, ρ', R, e, k⟩ := h
  obtain ⟨⟨x, ρ1⟩, e1, e⟩ := Option.bind_eq_some_iff.mp e
  obtain ⟨⟨l, ρ2⟩, e2, e⟩ := Option.bind_eq_some_iff.mp e
  obtain ⟨⟨u, ρ3⟩, e3, e⟩ := Option.bind_eq_some_iff.mp e
  obtain ⟨px, e4, e⟩ := Option.bind_eq_some_iff.mp e
  obtain ⟨d', e5, e6⟩ := Option.map_eq_some_iff.mp e
  cases e6
  refine ⟨Z, ρ, x, ρ1, R, e1, fun v1 H1 Z1 A1 o1 => ⟨Z1, ρ1, l, ρ2, A1.rs, e2, fun H2 Z2 A2 => ⟨Z2, ρ2, u, ρ', A2.rs, e3, fun H3 Z3 A3 => ⟨Z3, px, d, ((o1.after A2 A1.rs).after A3 A2.rs).rb A3.rs e4, e5, fun v H4 n => ?_⟩⟩⟩⟩
  obtain ⟨A4, r, o⟩ := NewD.fin ((A1.trans A2).trans A3) n
  exact k v H4 Z3 A4 r o
end
end Pv

set_option Elab.async false
set_option linter.all false
set_option maxRecDepth 100000
set_option maxHeartbeats 4000000
/-! EvD2: calls, methods, what is walked, comprehensions. -/
namespace Pv
open PySem PySem.Spec PyProof.Rows L2
/-- a def's promise: it does what F says -/
def spF (K : PySem.W.Frag) (n : Nat) (F : List D → Option (D × List D)) : Sp := fun vs H Q _ => ∃ Z ds d ds', vs.length = n ∧ RS K Z H (vs.map some) (ds.map some) ∧ F ds = some (d, ds') ∧ ds'.length = ds.length ∧
  ∀ v H' Z', After K Z H (vs.map some) (ds.map some) (ds'.map some) Z' H' → RD K Z' H' v d → OwnNew H (vs.map some) (ds.map some) (ds'.map some) v d → Q v H'
section
variable {K : PySem.W.Frag} {σ : L2.St} {H : Hp} {Q : VK} {Z : Addr → Prop} {ρ : EV}
theorem argD_own {o : Opd} {xs : List PyData} (h : argD ρ o = some (.own xs)) : ∃ p, o = .s p ∧ ρ[p]? = some (some (.own xs)) := by
  cases o with
  | v x => cases h
  | s p =>
    have h' : (match ρ[p]? with
      | some (some d) => some d
      | _ => none) = some (D.own xs) := h
    cases e : ρ[p]? with
    | none => rw [e] at h'; cases h'
    | some od =>
      cases od with
      | none => rw [e] at h'; cases h'
      | some d => rw [e] at h'; cases h'; exact ⟨p, rfl, e⟩
theorem argD_rd (R : RS K Z H σ ρ) {o : Opd} {v : V} {d : D} (ov : OV K Z H σ v o) (h : argD ρ o = some d) : RD K Z H v d := by
  cases o with
  | v x => cases h; exact ov
  | s p =>
    have h' : (match ρ[p]? with
      | some (some d) => some d
      | _ => none) = some d := h
    cases e : ρ[p]? with
    | none => rw [e] at h'; cases h'
    | some od =>
      cases od with
      | none => rw [e] at h'; cases h'
      | some d' =>
        rw [e] at h'; cases h'
        obtain ⟨w, e1, r⟩ := R.get p _ e
        have ov' : σ[p]? = some (some v) := ov
        rw [ov'] at e1; cases e1
        exact r
theorem args_at : ∀ {vs : List V} {os : List Opd} {ds : List D}, OVs K Z H σ vs os → argDs ρ os = some ds → vs.length = ds.length ∧ os.length = ds.length ∧ ∀ (i : Nat) (d : D), ds[i]? = some d → ∃ v o, vs[i]? = some v ∧ os[i]? = some o ∧ OV K Z H σ v o ∧ argD ρ o = some d
  | _, _, _, .nil, e => by cases e; exact ⟨rfl, rfl, fun i d h => by simp at h⟩
  | v :: vs, o :: os, ds, .cons r t, e => by
    obtain ⟨x, e1, e2⟩ := Option.bind_eq_some_iff.mp (show (argD ρ o).bind (fun x => (argDs ρ os).map (x :: ·)) = some ds from e)
    obtain ⟨ys, e3, e4⟩ := Option.map_eq_some_iff.mp e2
    subst e4
    obtain ⟨h1, h2, h3⟩ := args_at t e3
    refine ⟨by simp [h1], by simp [h2], fun i d h => ?_⟩
    cases i with
    | zero => simp at h; subst h; exact ⟨v, o, rfl, rfl, r, e1⟩
    | succ i => simpa using h3 i d (by simpa using h)
theorem lent_mem : ∀ {os : List Opd} {i p : Nat} {xs : List PyData}, os[i]? = some (.s p) → ρ[p]? = some (some (.own xs)) → p ∈ lent ρ os
  | [], _, _, _, h, _ => by simp at h
  | .v x :: os, 0, _, _, h, _ => by simp at h
  | .s q :: os, 0, p, xs, h, e => by
    simp at h; subst h
    unfold lent; rw [e]; exact List.mem_cons_self
  | .v x :: os, i + 1, p, xs, h, e => by
    unfold lent
    exact lent_mem (i := i) (by simpa using h) e
  | .s q :: os, i + 1, p, xs, h, e => by
    have ih := lent_mem (i := i) (os := os) (by simpa using h) e
    unfold lent
    split
    · exact List.mem_cons_of_mem _ ih
    · exact ih
theorem lent_inj : ∀ {os : List Opd} {i j p : Nat} {xs : List PyData}, nodupN (lent ρ os) = true → os[i]? = some (.s p) → os[j]? = some (.s p) → ρ[p]? = some (some (.own xs)) → i = j
  | [], _, _, _, _, _, h, _, _ => by simp at h
  | o :: os, 0, 0, _, _, _, _, _, _ => rfl
  | o :: os, 0, j + 1, p, xs, n, h1, h2, e => by
    simp at h1; subst h1
    have m := lent_mem (i := j) (os := os) (by simpa using h2) e
    have q : lent ρ (.s p :: os) = p :: lent ρ os := by
      show (match ρ[p]? with
        | some (some (.own _)) => p :: lent ρ os
        | _ => lent ρ os) = _
      rw [e]
    rw [q] at n
    unfold nodupN at n
    rw [Bool.and_eq_true] at n
    have := n.1
    rw [List.contains_iff_mem.mpr m] at this
    cases this
  | o :: os, i + 1, 0, p, xs, n, h1, h2, e => (lent_inj (i := 0) (j := i + 1) n h2 h1 e).symm
  | o :: os, i + 1, j + 1, p, xs, n, h1, h2, e => by
    have n' : nodupN (lent ρ os) = true := by
      cases o with
      | v x => exact n
      | s q =>
        unfold lent at n
        split at n
        · unfold nodupN at n
          rw [Bool.and_eq_true] at n
          exact n.2
        · exact n
    rw [lent_inj (i := i) (j := j) n' (by simpa using h1) (by simpa using h2) e]
/-- what the arguments are -/
theorem args_rs (R : RS K Z H σ ρ) {vs : List V} {os : List Opd} {ds : List D} (ov : OVs K Z H σ vs os) (e : argDs ρ os = some ds) (n : nodupN (lent ρ os) = true) : RS K Z H (vs.map some) (ds.map some) := by
  obtain ⟨l1, l2, hg⟩ := args_at ov e
  have own : ∀ (i : Nat) (xs : List PyData) (a : Addr), (ds.map some)[i]? = some (some (D.own xs)) → (vs.map some)[i]? = some (some (V.ref a)) → ∃ p, os[i]? = some (.s p) ∧ ρ[p]? = some (some (.own xs)) ∧ σ[p]? = some (some (V.ref a)) := fun i xs a h1 h2 => by
    rw [List.getElem?_map] at h1 h2
    obtain ⟨d, e1, e2⟩ := Option.map_eq_some_iff.mp h1
    cases e2
    obtain ⟨v, o, g1, g2, g3, g4⟩ := hg i _ e1
    rw [g1] at h2; cases h2
    obtain ⟨p, rfl, g5⟩ := argD_own g4
    exact ⟨p, g2, g5, g3⟩
  refine ⟨by simp [l1], fun i d h => ?_, fun i j xs ys a h1 h2 h3 h4 => ?_, R.z⟩
  · rw [List.getElem?_map] at h
    obtain ⟨d', e1, e2⟩ := Option.map_eq_some_iff.mp h
    cases e2
    obtain ⟨v, o, g1, g2, g3, g4⟩ := hg i _ e1
    exact ⟨v, by rw [List.getElem?_map, g1]; rfl, argD_rd R g3 g4⟩
  · obtain ⟨p, g1, g2, g3⟩ := own i xs a h1 h3
    obtain ⟨q, k1, k2, k3⟩ := own j ys a h2 h4
    obtain rfl := R.ne p q xs ys a g2 k2 g3 k3
    exact lent_inj n g1 k1 g2
theorem args_ow {vs : List V} {os : List Opd} {ds : List D} (ov : OVs K Z H σ vs os) (e : argDs ρ os = some ds) {a : Addr} (h : OW (vs.map some) (ds.map some) a) : ∃ (i p : Nat) (xs : List PyData), os[i]? = some (.s p) ∧ ρ[p]? = some (some (.own xs)) ∧ σ[p]? = some (some (V.ref a)) ∧ vs[i]? = some (.ref a) := by
  obtain ⟨l1, l2, hg⟩ := args_at ov e
  obtain ⟨i, xs, h1, h2⟩ := h
  rw [List.getElem?_map] at h1 h2
  obtain ⟨d, e1, e2⟩ := Option.map_eq_some_iff.mp h1
  cases e2
  obtain ⟨v, o, g1, g2, g3, g4⟩ := hg i _ e1
  rw [g1] at h2; cases h2
  obtain ⟨p, rfl, g5⟩ := argD_own g4
  exact ⟨i, p, xs, g2, g5, g3, g1⟩
theorem backD_get : ∀ {os : List Opd} {ds : List D} {j : Nat} {x : Option D}, os.length = ds.length → (backD ρ os ds)[j]? = some x →
    (∃ (i : Nat) (d : D) (xs : List PyData), os[i]? = some (.s j) ∧ ρ[j]? = some (some (.own xs)) ∧ ds[i]? = some d ∧ x = some d) ∨ (ρ[j]? = some x ∧ ∀ (i : Nat) (xs : List PyData), os[i]? = some (.s j) → ρ[j]? = some (some (.own xs)) → False)
  | [], [], j, x, _, h => .inr ⟨h, fun i xs q => by simp at q⟩
  | .v y :: os, d :: ds, j, x, l, h => by
    have h' : (backD ρ os ds)[j]? = some x := h
    rcases backD_get (by simpa using l) h' with ⟨i, e, xs, h1, h2, h3, h4⟩ | ⟨h1, h2⟩
    · exact .inl ⟨i + 1, e, xs, by simpa using h1, h2, by simpa using h3, h4⟩
    · refine .inr ⟨h1, fun i xs q1 q2 => ?_⟩
      cases i with
      | zero => simp at q1
      | succ i => exact h2 i xs (by simpa using q1) q2
  | .s p :: os, d :: ds, j, x, l, h => by
    have h' : (match ρ[p]? with
      | some (some (.own _)) => (backD ρ os ds).set p (some d)
      | _ => backD ρ os ds)[j]? = some x := h
    have rec' : (backD ρ os ds)[j]? = some x → (∀ xs, p = j → ρ[j]? = some (some (.own xs)) → False) →
      (∃ (i : Nat) (d' : D) (xs : List PyData), (Opd.s p :: os)[i]? = some (.s j) ∧ ρ[j]? = some (some (.own xs)) ∧ (d :: ds)[i]? = some d' ∧ x = some d') ∨ (ρ[j]? = some x ∧ ∀ (i : Nat) (xs : List PyData), (Opd.s p :: os)[i]? = some (.s j) → ρ[j]? = some (some (.own xs)) → False) := fun h0 no => by
      rcases backD_get (by simpa using l) h0 with ⟨i, e, xs, h1, h2, h3, h4⟩ | ⟨h1, h2⟩
      · exact .inl ⟨i + 1, e, xs, by simpa using h1, h2, by simpa using h3, h4⟩
      · refine .inr ⟨h1, fun i xs q1 q2 => ?_⟩
        cases i with
        | zero => simp at q1; exact no xs q1 q2
        | succ i => exact h2 i xs (by simpa using q1) q2
    cases e : ρ[p]? with
    | none =>
      rw [e] at h'
      exact rec' h' fun xs q1 q2 => by subst q1; rw [e] at q2; cases q2
    | some od =>
      cases od with
      | none =>
        rw [e] at h'
        exact rec' h' fun xs q1 q2 => by subst q1; rw [e] at q2; cases q2
      | some d' =>
        cases d' with
        | p z =>
          rw [e] at h'
          exact rec' h' fun xs q1 q2 => by subst q1; rw [e] at q2; cases q2
        | own zs =>
          rw [e] at h'
          rcases get_set h' with ⟨rfl, e1, _⟩ | ⟨nj, h0⟩
          · exact .inl ⟨0, d, zs, rfl, e, rfl, e1⟩
          · exact rec' h0 fun xs q1 _ => nj q1.symm
theorem backD_len : ∀ (os : List Opd) (ds : List D), (backD ρ os ds).length = ρ.length
  | [], _ => by cases ‹List D› <;> rfl
  | .v _ :: os, [] => rfl
  | .s _ :: os, [] => rfl
  | .v _ :: os, d :: ds => backD_len os ds
  | .s p :: os, d :: ds => by
    unfold backD
    split
    · rw [List.length_set]; exact backD_len os ds
    · exact backD_len os ds
/-- behind a call: the lists that were lent are as the callee left them -/
theorem back_after {Z' : Addr → Prop} {H' : Hp} (R : RS K Z H σ ρ) {vs : List V} {os : List Opd} {ds ds' : List D} (ov : OVs K Z H σ vs os) (e : argDs ρ os = some ds) (n : nodupN (lent ρ os) = true) (hl : ds'.length = ds.length)
    (A : After K Z H (vs.map some) (ds.map some) (ds'.map some) Z' H') : After K Z H σ ρ (backD ρ os ds') Z' H' := by
  obtain ⟨l1, l2, hg⟩ := args_at ov e
  have hO : ∀ a, OW (vs.map some) (ds.map some) a → OW σ ρ a := fun a h => by
    obtain ⟨i, p, xs, h1, h2, h3, _⟩ := args_ow ov e h
    exact ⟨p, xs, h2, h3⟩
  have slot : ∀ {i j : Nat} {xs : List PyData}, os[i]? = some (.s j) → ρ[j]? = some (some (.own xs)) → ∃ v, vs[i]? = some v ∧ σ[j]? = some (some v) := fun {i j xs} h1 h2 => by
    have hi : i < ds.length := by rw [← l2]; exact (List.getElem?_eq_some_iff.mp h1).1
    obtain ⟨v, o, g1, g2, g3, _⟩ := hg i ds[i] (by simp [hi])
    rw [h1] at g2; cases g2
    exact ⟨v, g1, g3⟩
  have len : os.length = ds'.length := by rw [hl]; exact l2
  refine ⟨⟨by rw [backD_len]; exact R.len, fun j d h => ?_, fun j k xs ys a h1 h2 h3 h4 => ?_, A.rs.z⟩, A.st.mono hO, fun a ⟨j, xs, h1, h2⟩ => ?_⟩
  · rcases backD_get len h with ⟨i, d', xs, h1, h2, h3, h4⟩ | ⟨h1, h2⟩
    · cases h4
      obtain ⟨v, g1, g2⟩ := slot h1 h2
      obtain ⟨w, k1, k2⟩ := A.rs.get i d (by rw [List.getElem?_map, h3]; rfl)
      rw [List.getElem?_map, g1] at k1; cases k1
      exact ⟨v, g2, k2⟩
    · obtain ⟨v, g1, g2⟩ := R.get j d h1
      refine ⟨v, g1, g2.step A.st (fun b o => OW.lst R (hO b o)) fun xs a e1 e2 o => ?_⟩
      subst e1 e2
      obtain ⟨i, p, zs, q1, q2, q3, _⟩ := args_ow ov e o
      obtain rfl := R.ne p j zs xs a q2 h1 q3 g1
      exact h2 i _ q1 q2
  · have src : ∀ {j : Nat} {xs : List PyData}, (backD ρ os ds')[j]? = some (some (.own xs)) → ∃ zs, ρ[j]? = some (some (.own zs)) := fun {j xs} h => by
      rcases backD_get len h with ⟨i, d', zs, g1, g2, g3, g4⟩ | ⟨g1, g2⟩
      · exact ⟨zs, g2⟩
      · exact ⟨xs, g1⟩
    obtain ⟨z1, g1⟩ := src h1
    obtain ⟨z2, g2⟩ := src h2
    exact R.ne j k z1 z2 a g1 g2 h3 h4
  · rcases backD_get len h1 with ⟨i, d', zs, g1, g2, g3, g4⟩ | ⟨g1, g2⟩
    · exact ⟨j, zs, g2, h2⟩
    · exact ⟨j, xs, g1, h2⟩
theorem callV_of {C : Fns} {f n : Nat} {a : EV → Option (List Opd × EV)} (hC : ∀ ds r, C f ds = some r → ds.length = n) (h : tV K (callV C f a) σ H Q) : tCall (spF K n (C f)) [] E0 (tOs K a) σ H Q := by
  obtain ⟨Z, ρ, d, ρ', R, e, k⟩ := h
  obtain ⟨⟨os, ρ1⟩, e1, e⟩ := Option.bind_eq_some_iff.mp e
  obtain ⟨ds, e2, e⟩ := Option.bind_eq_some_iff.mp e
  by_cases hn : nodupN (lent ρ1 os) = true
  · rw [if_pos hn] at e
    obtain ⟨⟨d', ds'⟩, e3, e⟩ := Option.bind_eq_some_iff.mp e
    obtain ⟨hl, e⟩ := ite_some e
    cases e
    have hl' : ds'.length = ds.length := of_decide_eq_true hl
    refine ⟨Z, ρ, os, ρ1, R, e1, fun vs H1 Z1 A1 o1 => ?_⟩
    show spF K n (C f) (vs ++ []) H1 Q E0
    rw [List.append_nil]
    obtain ⟨l1, l2, _⟩ := args_at o1 e2
    refine ⟨Z1, ds, d, ds', by rw [l1]; exact hC _ _ e3, args_rs A1.rs o1 e2 hn, e3, hl', fun v H2 Z2 A2 r2 n2 => ?_⟩
    have B := back_after A1.rs o1 e2 hn hl' A2
    refine k v H2 Z2 (A1.trans B) r2 (OwnNew.trans A1 fun xs b q1 q2 => ?_)
    obtain ⟨m1, m2⟩ := n2 xs b q1 q2
    have up : ∀ c, OW (vs.map some) (ds.map some) c → OW σ ρ1 c := fun c h => by
      obtain ⟨i, p, ys, g1, g2, g3, _⟩ := args_ow o1 e2 h
      exact ⟨p, ys, g2, g3⟩
    refine ⟨fun ⟨j, ys, g1, g2⟩ => ?_, m2.imp (up b) id⟩
    have len : os.length = ds'.length := by rw [hl']; exact l2
    rcases backD_get len g1 with ⟨i, d2, zs, q3, q4, q5, q6⟩ | ⟨q3, q4⟩
    · cases q6
      have hi : i < ds.length := by rw [← l2]; exact (List.getElem?_eq_some_iff.mp q3).1
      obtain ⟨_, _, hg⟩ := args_at o1 e2
      obtain ⟨w, o, g3, g4, g5, _⟩ := hg i ds[i] (by simp [hi])
      rw [q3] at g4; cases g4
      have g5' : σ[j]? = some (some w) := g5
      rw [g5'] at g2; cases g2
      exact m1 ⟨i, ys, by rw [List.getElem?_map, q5]; rfl, by rw [List.getElem?_map, g3]; rfl⟩
    · rcases m2 with m2 | m2
      · obtain ⟨i, p, zs, w1, w2, w3, _⟩ := args_ow o1 e2 m2
        obtain rfl := A1.rs.ne p j zs ys b w2 q3 w3 g2
        exact q4 i _ w1 w2
      · exact A1.rs.noOW m2 ⟨j, ys, q3, g2⟩
  · rw [if_neg hn] at e; cases e

/-! ### a list changed -/
theorem upd_step {a : Addr} {o : HO} : Step Z H (fun b => b = a) Z (upd H a o) := ⟨fun b u e n => by rw [upd_ne n]; exact e, fun _ z => z, fun _ z => .inl z⟩
theorem RPs.upd {a : Addr} {ws vs : List V} {xs : List PyData} {o : HO} (h : H a = some (.lst ws)) (nz : ¬ Z a) (r : RPs K Z H vs xs) : RPs K Z (upd H a o) vs xs := RPs.step upd_step (fun b e => by subst e; exact ⟨nz, ws, h⟩) xs r
theorem RP.upd {a : Addr} {ws : List V} {v : V} {x : PyData} {o : HO} (h : H a = some (.lst ws)) (nz : ¬ Z a) (r : RP K Z H v x) : RP K Z (upd H a o) v x := RP.step upd_step (fun b e => by subst e; exact ⟨nz, ws, h⟩) x r
theorem RS.chg (R : RS K Z H σ ρ) {a : Addr} {ws vs : List V} (h : H a = some (.lst ws)) (nz : ¬ Z a) (no : ¬ OW σ ρ a) : RS K Z (upd H a (.lst vs)) σ ρ :=
  R.step upd_step (fun b e => by subst e; exact ⟨nz, ws, h⟩) (fun b o e => by subst e; exact no o) fun b z => by
    by_cases e : b = a
    · subst e; exact ⟨vs, upd_same⟩
    · rw [upd_ne e]; exact R.z b z
theorem RS.mut (R : RS K Z H σ ρ) {i : Nat} {a : Addr} {ws ws' : List V} {xs xs' : List PyData} (hi : ρ[i]? = some (some (.own xs))) (hs : σ[i]? = some (some (V.ref a))) (h : H a = some (.lst ws)) (nz : ¬ Z a) (r : RPs K Z H ws' xs') :
    After K Z H σ ρ (ρ.set i (some (.own xs'))) Z (upd H a (.lst ws')) := by
  have hil : i < ρ.length := (List.getElem?_eq_some_iff.mp hi).1
  have R1 : RS K Z H σ (ρ.set i none) := R.forget i
  have no : ¬ OW σ (ρ.set i none) a := fun ⟨j, zs, q1, q2⟩ => by
    rcases get_set q1 with ⟨_, q, _⟩ | ⟨nj, q1⟩
    · cases q
    · exact nj (R.ne j i zs xs a q1 hi q2 hs)
  have R2 := R1.chg (vs := ws') h nz no
  have R3 := R2.tell (i := i) (d := .own xs') hs ⟨a, ws', rfl, upd_same, nz, r.upd h nz⟩ fun ys b e1 e2 j zs nj q1 q2 => by
    cases e2
    exact no ⟨j, zs, q1, q2⟩
  rw [List.set_set] at R3
  refine ⟨R3, upd_step.mono fun b e => by subst e; exact ⟨i, xs, hi, hs⟩, fun b ⟨j, zs, q1, q2⟩ => ?_⟩
  rcases get_set q1 with ⟨rfl, q, _⟩ | ⟨nj, q1⟩
  · exact ⟨j, xs, hi, q2⟩
  · exact ⟨j, zs, q1, q2⟩
theorem isOwn_iff {i : Nat} (h : isOwn ρ i = true) : ∃ xs, ρ[i]? = some (some (.own xs)) := by
  unfold isOwn at h
  cases e : ρ[i]? with
  | none => rw [e] at h; cases h
  | some od =>
    cases od with
    | none => rw [e] at h; cases h
    | some d =>
      cases d with
      | p x => rw [e] at h; cases h
      | own xs => exact ⟨xs, rfl⟩
theorem methV_of {m : Mth} {i : Nat} {a : EV → Option (List PyData × EV)} (h : tV K (methV m i a) σ H Q) : tBM K "list" (rM K m) (tVar i) (tPs K a) σ H Q := by
  obtain ⟨Z, ρ, d, ρ', R, e, k⟩ := h
  unfold methV at e
  by_cases ho : isOwn ρ i = true
  · rw [if_pos ho] at e
    obtain ⟨⟨ys, ρ1⟩, e1, e⟩ := Option.bind_eq_some_iff.mp e
    obtain ⟨zs, h0⟩ := isOwn_iff ho
    obtain ⟨v, s0, a0, w0, rfl, q1, q2, q3⟩ := R.get i _ h0
    refine ⟨.ref a0, s0, .inl ⟨rfl, w0, SqL.of q1⟩, Z, ρ, ys, ρ1, R, e1, fun vs H1 Z1 A1 r1 => ?_⟩
    cases hi : ρ1[i]? with
    | none => simp only [hi] at e; cases e
    | some od =>
      cases od with
      | none => simp only [hi] at e; cases e
      | some dd =>
        cases dd with
        | p x => simp only [hi] at e; cases e
        | own xs =>
          simp only [hi] at e
          obtain ⟨⟨y, xs'⟩, e2, e3⟩ := Option.map_eq_some_iff.mp e
          cases e3
          obtain ⟨v, s1, a1, w1, rfl, p1, p2, p3⟩ := A1.rs.get i _ hi
          rw [s0] at s1; cases s1
          refine ⟨Z1, a0, w1, xs, ys, y, xs', rfl, p1, p2, p3, r1, e2, fun v ws' rv rw' => ?_⟩
          have A2 := A1.rs.mut hi s0 p1 p2 rw'
          exact k v _ Z1 (A1.trans A2) (RP.upd p1 p2 rv) .p
  · rw [if_neg ho] at e; cases e
end
end Pv

set_option Elab.async false
set_option linter.all false
set_option maxRecDepth 100000
set_option maxHeartbeats 4000000
/-! EvD3: what is walked; list comprehensions. -/
namespace Pv
open PySem PySem.Spec PyProof.Rows L2
/-- the iterator J gives these items -/
inductive Wk (K : PySem.W.Frag) (Z : Addr → Prop) (H : Hp) (items : List PyData) : L2.It → Prop
  | lst {a : Addr} {vs : List V} : SqZ K Z H a vs → RPs K Z H vs items → Wk K Z H items (Itl K a)
  | tup {a : Addr} {vs : List V} : SqT K H a vs → RPs K Z H vs items → Wk K Z H items (Itt K a)
  | rng {lo : Int} {n : Nat} : items = ((List.range n).map fun i => PyData.int (lo + (i : Nat))) → Wk K Z H items (Itr lo n)
section
variable {K : PySem.W.Frag} {σ : L2.St} {H H' : Hp} {Q : VK} {Z Z' : Addr → Prop} {ρ : EV} {O : Addr → Prop} {items : List PyData} {J : L2.It}
theorem Wk.step (w : Wk K Z H items J) (s : Step Z H O Z' H') (hO : ∀ a, O a → ¬ Z a ∧ ∃ vs, H a = some (.lst vs)) : Wk K Z' H' items J := by
  cases w with
  | lst h r => exact .lst (SqZ.step h s hO) (RPs.step s hO _ r)
  | tup h r => exact .tup (SqT.step h s hO) (RPs.step s hO _ r)
  | rng e => exact .rng e
theorem Wk.go (w : Wk K Z H items J) {i : Nat} (h : i < items.length) : J.go i H := by
  cases w with
  | lst hs r =>
    obtain ⟨v, e, _⟩ := r.get (i := i) (x := items[i]) (by simp [h])
    exact ⟨_, v, hs.sq, e⟩
  | tup hs r =>
    obtain ⟨v, e, _⟩ := r.get (i := i) (x := items[i]) (by simp [h])
    exact ⟨_, v, hs, e⟩
  | rng e =>
    rw [e, List.length_map, List.length_range] at h
    exact h
theorem Wk.stop (w : Wk K Z H items J) {i : Nat} (h : items.length ≤ i) : J.stop i H := by
  cases w with
  | lst hs r => exact ⟨_, hs.sq, by rw [r.length]; exact h⟩
  | tup hs r => exact ⟨_, hs, by rw [r.length]; exact h⟩
  | rng e =>
    rw [e, List.length_map, List.length_range] at h
    exact h
theorem Wk.yld (w : Wk K Z H items J) {i : Nat} {v : V} {x : PyData} (hx : items[i]? = some x) (y : J.yld i H v H') : H' = H ∧ RP K Z H v x := by
  cases w with
  | lst hs r =>
    obtain ⟨e, q⟩ := y
    obtain ⟨u, e1, e2⟩ := r.get hx
    have := q _ hs.sq
    rw [e1] at this; cases this
    exact ⟨e, e2⟩
  | tup hs r =>
    obtain ⟨e, q⟩ := y
    obtain ⟨u, e1, e2⟩ := r.get hx
    have := q _ hs
    rw [e1] at this; cases this
    exact ⟨e, e2⟩
  | rng e0 =>
    obtain ⟨e, q⟩ := y
    refine ⟨e, ?_⟩
    rw [e0, List.getElem?_map] at hx
    obtain ⟨j, e1, e2⟩ := Option.map_eq_some_iff.mp hx
    rw [List.getElem?_range (by
      have := (List.getElem?_eq_some_iff.mp e1).1
      rw [List.length_range] at this
      exact this)] at e1
    cases e1
    subst q e2
    exact .int _
def tI (K : PySem.W.Frag) (it : It) (f : EV → Option (List PyData × EV)) : TI := fun σ H R => ∃ Z ρ xs ρ' items, RS K Z H σ ρ ∧ f ρ = some (xs, ρ') ∧ itemsOf it xs = some items ∧ ∀ J H' Z', After K Z H σ ρ ρ' Z' H' → Wk K Z' H' items J → R J H'

/-! ### targets -/
def Tg.slots : Tg → List Nat
  | .nm i => [i]
  | .tp is => is
def tG (K : PySem.W.Frag) (tg : Tg) : TG := fun v σ H Q => ∃ Z ρ x ρ', RS K Z H σ ρ ∧ RP K Z H v x ∧ asgT ρ tg x = some ρ' ∧ ∀ σ', RS K Z H σ' ρ' → (∀ a, OW σ' ρ' a → OW σ ρ a) → (∀ j, j ∉ tg.slots → σ'[j]? = σ[j]?) → Q σ' H
def tGs (K : PySem.W.Frag) (is : List Nat) : TGs := fun vs σ H Q => ∃ Z ρ xs ρ', RS K Z H σ ρ ∧ RPs K Z H vs xs ∧ asgNames ρ is xs = some ρ' ∧ ∀ σ', RS K Z H σ' ρ' → (∀ a, OW σ' ρ' a → OW σ ρ a) → (∀ j, j ∉ is → σ'[j]? = σ[j]?) → Q σ' H
theorem OW.storeP {i : Nat} {v : V} {x : PyData} {a : Addr} (h : OW (σ.set i (some v)) (ρ.set i (some (.p x))) a) : OW σ ρ a := by
  rcases OW.store h with h | ⟨xs, e, _⟩
  · exact h
  · cases e
theorem gName_of {i : Nat} {v : V} {Q : L2.St → Hp → Prop} (h : tG K (.nm i) v σ H Q) : gName i v σ H Q := by
  obtain ⟨Z, ρ, x, ρ', R, r, e, k⟩ := h
  cases e
  exact k _ (R.store (d := .p x) r fun _ _ q => nomatch q) (fun a h => OW.storeP h) fun j hj => List.getElem?_set_ne fun e => hj (by subst e; exact List.mem_cons_self)
theorem gNil_of {vs : List V} {Q : L2.St → Hp → Prop} (h : tGs K [] vs σ H Q) : gNil vs σ H Q := by
  obtain ⟨Z, ρ, xs, ρ', R, r, e, k⟩ := h
  cases xs with
  | nil =>
    cases r
    cases e
    exact ⟨rfl, k σ R (fun _ o => o) fun _ _ => rfl⟩
  | cons y ys => cases e
theorem gCons_of {i : Nat} {is : List Nat} {vs : List V} {Q : L2.St → Hp → Prop} (h : tGs K (i :: is) vs σ H Q) : gCons (gName i) (tGs K is) vs σ H Q := by
  obtain ⟨Z, ρ, xs, ρ', R, r, e, k⟩ := h
  cases xs with
  | nil => cases e
  | cons y ys =>
    cases r with
    | cons r1 r2 =>
      have e' : asgNames (ρ.set i (some (.p y))) is ys = some ρ' := e
      refine ⟨_, _, rfl, Z, _, ys, ρ', R.store (d := .p y) r1 (fun _ _ q => nomatch q), r2, e', fun σ' R' s' n' => k σ' R' (fun a o => OW.storeP (s' a o)) fun j hj => ?_⟩
      rw [n' j fun q => hj (List.mem_cons_of_mem _ q)]
      exact List.getElem?_set_ne fun e => hj (by subst e; exact List.mem_cons_self)
theorem gTup_of {is : List Nat} {v : V} {Q : L2.St → Hp → Prop} (h : tG K (.tp is) v σ H Q) : gTup K is.length (tGs K is) v σ H Q := by
  obtain ⟨Z, ρ, x, ρ', R, r, e, k⟩ := h
  cases x with
  | tuple xs =>
    cases r with
    | tup hs ra =>
      refine ⟨_, _, rfl, hs, ?_, Z, ρ, xs, ρ', R, ra, e, k⟩
      rw [ra.length]
      have go : ∀ (is : List Nat) (xs : List PyData) (ρ ρ' : EV), asgNames ρ is xs = some ρ' → xs.length = is.length := by
        intro is
        induction is with
        | nil => intro xs ρ ρ' e; cases xs with | nil => rfl | cons => cases e
        | cons i is ih => intro xs ρ ρ' e; cases xs with | nil => cases e | cons y ys => rw [List.length_cons, List.length_cons, ih ys _ _ e]
      exact go is xs ρ ρ' e
  | _ => cases e

/-! ### slots of a block -/
theorem wipe_in : ∀ {vs : List Nat} {σ : L2.St} {j : Nat} {y : Option V}, j ∈ vs → (wipe σ vs)[j]? = some y → y = none
  | v :: vs, σ, j, y, hj, h => by
    unfold wipe at h
    by_cases e : v = j
    · subst e
      rcases get_set h with ⟨_, e, _⟩ | ⟨n, _⟩
      · exact e
      · exact absurd rfl n
    · rw [List.getElem?_set_ne e] at h
      rcases List.mem_cons.mp hj with q | q
      · exact absurd q.symm e
      · exact wipe_in q h
theorem wipeV_in : ∀ {vs : List Nat} {σ : EV} {j : Nat} {y : Option D}, j ∈ vs → (wipeV σ vs)[j]? = some y → y = none
  | v :: vs, σ, j, y, hj, h => by
    unfold wipeV at h
    by_cases e : v = j
    · subst e
      rcases get_set h with ⟨_, e, _⟩ | ⟨n, _⟩
      · exact e
      · exact absurd rfl n
    · rw [List.getElem?_set_ne e] at h
      rcases List.mem_cons.mp hj with q | q
      · exact absurd q.symm e
      · exact wipeV_in q h
theorem wipeV_out : ∀ {vs : List Nat} {σ : EV} {j : Nat}, j ∉ vs → (wipeV σ vs)[j]? = σ[j]?
  | [], _, _, _ => rfl
  | v :: vs, σ, j, hj => by
    unfold wipeV
    rw [List.getElem?_set_ne fun e => hj (by subst e; exact List.mem_cons_self)]
    exact wipeV_out fun q => hj (List.mem_cons_of_mem _ q)
theorem wipeV_len : ∀ (σ : EV) (vs : List Nat), (wipeV σ vs).length = σ.length
  | _, [] => rfl
  | σ, v :: vs => by unfold wipeV; rw [List.length_set, wipeV_len σ vs]
theorem wipe_eq {vs : List Nat} {σ σ' : L2.St} (hl : σ'.length = σ.length) (h : ∀ j, j ∉ vs → σ'[j]? = σ[j]?) : wipe σ' vs = wipe σ vs := by
  refine List.ext_getElem? fun j => ?_
  by_cases hj : j ∈ vs
  · cases e : (wipe σ' vs)[j]? with
    | none =>
      have : (wipe σ vs)[j]? = none := by
        rw [List.getElem?_eq_none_iff] at e ⊢
        rw [wipe_length] at e ⊢
        omega
      rw [this]
    | some y =>
      obtain rfl := wipe_in hj e
      cases e2 : (wipe σ vs)[j]? with
      | none =>
        rw [List.getElem?_eq_none_iff, wipe_length] at e2
        have := (List.getElem?_eq_some_iff.mp e).1
        rw [wipe_length] at this
        omega
      | some z => rw [wipe_in hj e2]
  · rw [wipe_out hj, wipe_out hj, h j hj]
theorem back_in : ∀ {vs : List Nat} {ρ0 ρ : EV} {j : Nat} {y : Option D}, ρ.length = ρ0.length → j ∈ vs → (backV ρ0 ρ vs)[j]? = some y → ρ0[j]? = some y
  | v :: vs, ρ0, ρ, j, y, hl, hj, h => by
    unfold backV at h
    cases e0 : ρ0[v]? with
    | none =>
      rw [e0] at h
      rcases List.mem_cons.mp hj with q | q
      · subst q
        have h1 := (List.getElem?_eq_some_iff.mp h).1
        have len : (backV ρ0 ρ vs).length = ρ.length := by
          have go : ∀ (vs : List Nat), (backV ρ0 ρ vs).length = ρ.length := by
            intro vs
            induction vs with
            | nil => rfl
            | cons w ws ih => unfold backV; split <;> simp [ih]
          exact go vs
        rw [len, hl] at h1
        rw [List.getElem?_eq_none_iff] at e0
        omega
      · exact back_in hl q h
    | some o =>
      rw [e0] at h
      by_cases e : v = j
      · subst e
        rcases get_set h with ⟨_, e, _⟩ | ⟨n, _⟩
        · rw [e0, e]
        · exact absurd rfl n
      · have h' : (backV ρ0 ρ vs)[j]? = some y := by
          rw [List.getElem?_set_ne e] at h
          exact h
        rcases List.mem_cons.mp hj with q | q
        · exact absurd q.symm e
        · exact back_in hl q h'
theorem back_out : ∀ {vs : List Nat} {ρ0 ρ : EV} {j : Nat}, j ∉ vs → (backV ρ0 ρ vs)[j]? = ρ[j]?
  | [], _, _, _, _ => rfl
  | v :: vs, ρ0, ρ, j, hj => by
    have ih := back_out (ρ0 := ρ0) (ρ := ρ) (vs := vs) (j := j) fun q => hj (List.mem_cons_of_mem _ q)
    unfold backV
    split
    · rw [List.getElem?_set_ne fun e => hj (by subst e; exact List.mem_cons_self)]
      exact ih
    · exact ih
theorem back_len : ∀ (ρ0 ρ : EV) (vs : List Nat), (backV ρ0 ρ vs).length = ρ.length
  | _, _, [] => rfl
  | ρ0, ρ, v :: vs => by unfold backV; split <;> simp [back_len ρ0 ρ vs]
theorem OW.wipe {vs : List Nat} {a : Addr} (h : OW (wipe σ vs) (wipeV ρ vs) a) : ∃ (j : Nat) (xs : List PyData), j ∉ vs ∧ ρ[j]? = some (some (.own xs)) ∧ σ[j]? = some (some (V.ref a)) := by
  obtain ⟨j, xs, h1, h2⟩ := h
  have hj : j ∉ vs := fun q => by have := wipeV_in q h1; cases this
  rw [wipeV_out hj] at h1
  rw [wipe_out hj] at h2
  exact ⟨j, xs, hj, h1, h2⟩
theorem OW.wipe' {vs : List Nat} {a : Addr} (h : OW (L2.wipe σ vs) (wipeV ρ vs) a) : OW σ ρ a := let ⟨j, xs, _, h1, h2⟩ := OW.wipe h; ⟨j, xs, h1, h2⟩
theorem RS.wipe (R : RS K Z H σ ρ) (vs : List Nat) : RS K Z H (L2.wipe σ vs) (wipeV ρ vs) where
  len := by rw [wipe_length, wipeV_len]; exact R.len
  get := fun j d h => by
    have hj : j ∉ vs := fun q => by have := wipeV_in q h; cases this
    rw [wipeV_out hj] at h
    rw [wipe_out hj]
    exact R.get j d h
  ne := fun j k xs ys a h1 h2 h3 h4 => by
    have hj : j ∉ vs := fun q => by have := wipeV_in q h1; cases this
    have hk : k ∉ vs := fun q => by have := wipeV_in q h2; cases this
    rw [wipeV_out hj] at h1
    rw [wipeV_out hk] at h2
    rw [wipe_out hj] at h3
    rw [wipe_out hk] at h4
    exact R.ne j k xs ys a h1 h2 h3 h4
  z := R.z
/-- behind a block: its own names' slots as ahead of it -/
theorem back_block {ρ1 ρ2 : EV} {vs : List Nat} (R : RS K Z H σ ρ1) (R2 : RS K Z' H' (L2.wipe σ vs) (wipeV ρ2 vs)) (st : Step Z H (OW (L2.wipe σ vs) (wipeV ρ1 vs)) Z' H')
    (sub : ∀ a, OW (L2.wipe σ vs) (wipeV ρ2 vs) a → OW (L2.wipe σ vs) (wipeV ρ1 vs) a) : After K Z H σ ρ1 (backV ρ1 ρ2 vs) Z' H' := by
  have hl : ρ2.length = ρ1.length := by
    have := R2.len
    rw [wipe_length, wipeV_len] at this
    have := R.len
    omega
  have outer : ∀ {j : Nat} {xs : List PyData} {a : Addr}, j ∉ vs → (backV ρ1 ρ2 vs)[j]? = some (some (.own xs)) → σ[j]? = some (some (V.ref a)) → OW (L2.wipe σ vs) (wipeV ρ1 vs) a := fun {j xs a} hj h1 h2 => by
    rw [back_out hj] at h1
    exact sub a ⟨j, xs, by rw [wipeV_out hj]; exact h1, by rw [wipe_out hj]; exact h2⟩
  refine ⟨⟨by rw [back_len, hl]; exact R.len, fun j d h => ?_, fun j k xs ys a h1 h2 h3 h4 => ?_, R2.z⟩, st.mono fun a o => OW.wipe' o, fun a ⟨j, xs, h1, h2⟩ => ?_⟩
  · by_cases hj : j ∈ vs
    · have h1 := back_in hl hj h
      obtain ⟨v, g1, g2⟩ := R.get j d h1
      refine ⟨v, g1, g2.step st (fun b o => OW.lst R (OW.wipe' o)) fun xs a e1 e2 o => ?_⟩
      subst e1 e2
      obtain ⟨k, ys, hk, q1, q2⟩ := OW.wipe o
      exact hk (R.ne j k xs ys a h1 q1 g1 q2 ▸ hj)
    · rw [back_out hj] at h
      obtain ⟨v, g1, g2⟩ := R2.get j d (by rw [wipeV_out hj]; exact h)
      rw [wipe_out hj] at g1
      exact ⟨v, g1, g2⟩
  · by_cases hj : j ∈ vs
    · have g1 := back_in hl hj h1
      by_cases hk : k ∈ vs
      · exact R.ne j k xs ys a g1 (back_in hl hk h2) h3 h4
      · obtain ⟨m, zs, hm, q1, q2⟩ := OW.wipe (outer hk h2 h4)
        exact absurd (R.ne j m xs zs a g1 q1 h3 q2 ▸ hj) hm
    · by_cases hk : k ∈ vs
      · obtain ⟨m, zs, hm, q1, q2⟩ := OW.wipe (outer hj h1 h3)
        exact absurd (R.ne k m ys zs a (back_in hl hk h2) q1 h4 q2 ▸ hk) hm
      · refine R2.ne j k xs ys a ?_ ?_ (by rw [wipe_out hj]; exact h3) (by rw [wipe_out hk]; exact h4)
        · rw [wipeV_out hj]; rw [back_out hj] at h1; exact h1
        · rw [wipeV_out hk]; rw [back_out hk] at h2; exact h2
  · by_cases hj : j ∈ vs
    · exact ⟨j, xs, back_in hl hj h1, h2⟩
    · exact OW.wipe' (outer hj h1 h2)
theorem lcV_of {tg : Tg} {it : It} {src : EV → Option (List PyData × EV)} {ifs : M} {elt : EV → Option (PyData × EV)} {own : List Nat} (ht : ∀ i ∈ tg.slots, i ∈ own) (h : tV K (lcV tg it src ifs elt own) σ H Q) :
    tLc (tI K it src) (tG K tg) (tT K (tst1 ifs)) (tP K elt) own σ H Q := by
  obtain ⟨Z, ρ, d, ρ', R, e, k⟩ := h
  obtain ⟨⟨xs, ρ1⟩, e1, e⟩ := Option.bind_eq_some_iff.mp e
  obtain ⟨items, e2, e⟩ := Option.bind_eq_some_iff.mp e
  obtain ⟨⟨acc, ρ2⟩, e3, e4⟩ := Option.map_eq_some_iff.mp e
  cases e4
  refine ⟨Z, ρ, xs, ρ1, items, R, e1, e2, fun J H1 Z1 A1 w D hD => ?_⟩
  have Rw : RS K Z1 H1 (L2.wipe σ own) (wipeV ρ1 own) := A1.rs.wipe own
  have noD : ¬ OW (L2.wipe σ own) (wipeV ρ1 own) D := Rw.noOW hD
  let Inv : Nat → Hp → Prop := fun i H2 => ∃ (Z2 : Addr → Prop) (ρi : EV) (accs : List PyData) (accv : List V), RS K Z2 H2 (L2.wipe σ own) (wipeV ρi own) ∧ H2 D = some (.lst accv) ∧ RPs K Z2 H2 accv accs ∧ ¬ Z2 D ∧
    Step Z1 H1 (OW (L2.wipe σ own) (wipeV ρ1 own)) Z2 H2 ∧ (∀ a, OW (L2.wipe σ own) (wipeV ρi own) a → OW (L2.wipe σ own) (wipeV ρ1 own) a) ∧
    lcL (fun ρ x => asgT ρ tg x) (tst1 ifs) elt (fun ρ => wipeV ρ own) (items.drop i) accs ρi = some (acc, ρ2)
  refine ⟨fun i m H2 => m = items.length - i ∧ i ≤ items.length ∧ Inv i H2, ⟨items.length, by simp, Nat.zero_le _, Z1, ρ1, [], [], Rw.same (ext_new hD), upd_same, .nil, A1.rs.noZ hD, Step.same (ext_new hD), fun _ o => o, by rw [List.drop_zero]; exact e3⟩, ?_⟩
  rintro i m H2 ⟨rfl, hi, Z2, ρi, accs, accv, R2, hacc, racc, nz, st, sub, el⟩
  have w2 := w.step st (fun a o => OW.lst Rw o)
  have nD2 : ¬ OW (L2.wipe σ own) (wipeV ρi own) D := fun o => noD (sub D o)
  by_cases hlt : i < items.length
  · refine .inr ⟨w2.go hlt, Inv (i + 1), fun H' p' => ⟨items.length - (i + 1), by omega, rfl, hlt, p'⟩, fun x H' y => ?_⟩
    have hx : items[i]? = some items[i] := by simp [hlt]
    obtain ⟨rfl, rx⟩ := w2.yld hx y
    rw [List.drop_eq_getElem_cons hlt] at el
    obtain ⟨ρa, g1, el⟩ := Option.bind_eq_some_iff.mp el
    obtain ⟨⟨b, ρb⟩, g2, el⟩ := Option.bind_eq_some_iff.mp el
    refine ⟨Z2, wipeV ρi own, items[i], ρa, R2, rx, g1, fun σ2 Ra suba same => ?_⟩
    have wq : L2.wipe σ2 own = L2.wipe σ own := by
      have l1 := Ra.len
      have l2 := R2.len
      rw [wipe_length, wipeV_len] at l2
      have l3 : ρa.length = (wipeV ρi own).length := by
        have go : ∀ (is : List Nat) (xs : List PyData) (ρ ρ' : EV), asgNames ρ is xs = some ρ' → ρ'.length = ρ.length := by
          intro is
          induction is with
          | nil => intro xs ρ ρ' e; cases xs with | nil => cases e; rfl | cons => cases e
          | cons i is ih => intro xs ρ ρ' e; cases xs with | nil => cases e | cons y ys => rw [ih ys _ _ e, List.length_set]
        cases tg with
        | nm i => cases g1; rw [List.length_set]
        | tp is =>
          cases hxx : items[i] with
          | tuple ys => rw [hxx] at g1; exact go is ys _ _ g1
          | _ => rw [hxx] at g1; cases g1
      rw [wipeV_len] at l3
      refine (wipe_eq (by rw [wipe_length]; omega) fun j hj => same j fun q => hj (ht j q)).trans ?_
      exact wipe_eq (wipe_length _ _) fun j hj => wipe_out hj
    refine ⟨wq, Z2, ρa, b, ρb, Ra, g2, fun H4 Z4 A4 => ?_⟩
    have nDa : ¬ OW σ2 ρa D := fun o => nD2 (suba D o)
    have hD4 : H4 D = some (.lst accv) := A4.st.keep D _ hacc nDa
    have nz4 : ¬ Z4 D := fun z => by
      rcases A4.st.new D z with q | q | q
      · exact nz q
      · exact nDa q
      · rw [hacc] at q; cases q
    have st4 : Step Z1 H1 (OW (L2.wipe σ own) (wipeV ρ1 own)) Z4 H4 := st.trans A4.st fun a o => .inl (sub a (suba a o))
    cases b with
    | false =>
      refine iteF ⟨Z4, ρb, accs, accv, ?_, hD4, A4.rps Ra racc, nz4, st4, fun a o => ?_, el⟩
      · rw [← wq]; exact A4.rs.wipe own
      · rw [← wq] at o
        exact sub a (suba a (A4.sub a (OW.wipe' o)))
    | true =>
      have el' := (if_pos rfl).symm.trans el
      obtain ⟨⟨y, ρc⟩, g3, el⟩ := Option.bind_eq_some_iff.mp el'
      dsimp only at el
      by_cases hz : decide (accs.length < sizeLine) = true
      · rw [if_pos hz] at el
        refine iteT ⟨Z4, ρb, y, ρc, A4.rs, g3, fun yv H5 Z5 A5 ry => ?_⟩
        have nDb : ¬ OW σ2 ρb D := fun o => nDa (A4.sub D o)
        have hD5 : H5 D = some (.lst accv) := A5.st.keep D _ hD4 nDb
        have nz5 : ¬ Z5 D := fun z => by
          rcases A5.st.new D z with q | q | q
          · exact nz4 q
          · exact nDb q
          · rw [hD4] at q; cases q
        have nDc : ¬ OW σ2 ρc D := fun o => nDb (A5.sub D o)
        have r5 : RPs K Z5 H5 accv accs := A5.rps A4.rs (A4.rps Ra racc)
        refine ⟨accv, hD5, by rw [racc.length]; exact of_decide_eq_true hz, Z5, ρc, accs ++ [y], accv ++ [yv], ?_, upd_same, (r5.upd hD5 nz5).append (.cons (RP.upd hD5 nz5 ry) .nil), nz5, ?_, fun a o => ?_, el⟩
        · rw [← wq]
          exact (A5.rs.wipe own).chg hD5 nz5 fun o => nDc (OW.wipe' o)
        · refine (st4.trans A5.st fun a o => .inl (sub a (suba a (A4.sub a o)))).trans upd_step fun a q => ?_
          subst q
          exact .inr hD
        · rw [← wq] at o
          exact sub a (suba a (A4.sub a (A5.sub a (OW.wipe' o))))
      · rw [if_neg hz] at el; cases el
  · have hi' : i = items.length := by omega
    subst hi'
    refine .inl ⟨w2.stop (Nat.le_refl _), ?_⟩
    rw [List.drop_length] at el
    cases el
    have B := back_block A1.rs R2 st sub
    have nB : ¬ OW σ (backV ρ1 ρ2 own) D := fun o => A1.rs.noOW hD (B.sub D o)
    refine k (.ref D) H2 Z2 (A1.trans B) ⟨D, accv, rfl, hacc, nz, racc⟩ fun ys a q1 q2 => ?_
    cases q2
    refine ⟨nB, ?_⟩
    by_cases ho : OW σ ρ D
    · exact .inl ho
    · cases e : H D with
      | none => exact .inr rfl
      | some o => rw [A1.st.keep D o e ho] at hD; cases hD
end
end Pv

set_option Elab.async false
set_option linter.all false
set_option maxRecDepth 100000
set_option maxHeartbeats 8000000
/-! EvE: an expression of the text is a term of the syntax (chk); the soundness of expressions. -/
namespace Pv
open PySem PySem.Spec PyProof.Rows L2
/-- what a def's check knows: the names by slot, the module's constants, its functions (how many parameters) -/
structure Gm where
  N : List Str
  G : List (Str × PyData)
  F : List (Str × Nat)
  lk : List Nat
def plainE : Expr → Bool
  | .Starred _ _ => false
  | .Slice _ _ _ _ => false
  | .Set _ _ _ => false
  | .SetComp _ _ _ _ => false
  | .DictComp _ _ _ _ _ => false
  | _ => true
structure CK where
  e : Scope → Scope → Expr → Bool
  l : Scope → Scope → List Expr → Bool
  op : Scope → Scope → Option Expr → Bool
def ckE (f : Scope → Scope → Expr → Bool) : CK :=
  ⟨fun own sc x => plainE x && f own sc x, fun _ _ _ => false, fun own sc o => match o with | some x => plainE x && f own sc x | none => false⟩
def constB : PyData → Const → Bool
  | .none, .none => true
  | .bool a, .bool b => a == b
  | .int a, .int b => decide (a = b)
  | .str a, .str b => decide (a = b)
  | _, _ => false
def visB (sc : Scope) (x : Str) : Bool := match sc.names.lookup x with
  | some .local => true
  | some .cell => true
  | some .free => true
  | _ => false
def locB (sc : Scope) (x : Str) : Bool := match sc.names.lookup x with
  | some .local => true
  | some .cell => true
  | _ => false
def glB (sc : Scope) (x : Str) : Bool := match sc.names.lookup x with
  | some .globalImplicit => true
  | _ => false
def nmB (Γ : Gm) (sc : Scope) (i : Nat) (x : Str) : Bool := (match Γ.N[i]? with | some y => decide (y = x) | none => false) && visB sc x
/-- a target of a for -/
def tgsB (Γ : Gm) (own : Scope) : List Nat → List Expr → Bool
  | [], [] => true
  | i :: is, .Name x _ :: xs => (match Γ.N[i]? with | some y => decide (y = x) | none => false) && (locB own x && tgsB Γ own is xs)
  | _, _ => false
def tgB (Γ : Gm) (own : Scope) : Tg → Expr → Bool
  | .nm i, .Name x _ => (match Γ.N[i]? with | some y => decide (y = x) | none => false) && locB own x
  | .tp is, .Tuple xs _ _ => tgsB Γ own is xs
  | _, _ => false
def subB (is js : List Nat) : Bool := is.all fun i => js.contains i
def bltNames : List Str := ["len", "tuple", "list", "abs", "int", "sum", "max", "min", "any", "all", "isinstance", "range", "bool", "str"]
def chk (Γ : Gm) : E → CK
  | .con c => ckE fun _ _ x => match x with | .Constant k _ _ => constB c k | _ => false
  | .glob k => ckE fun _ sc x => match x with | .Name n _ => glB sc n && (match Γ.G[k]? with | some p => decide (p.1 = n) | none => false) | _ => false
  | .var i => ckE fun _ sc x => match x with | .Name n _ => nmB Γ sc i n | _ => false
  | .mov i => ckE fun _ sc x => match x with | .Name n _ => nmB Γ sc i n | _ => false
  | .bin o a b => ckE fun own sc x => match x with | .BinOp l op r _ => decide (op = o.op) && ((chk Γ a).e own sc l && (chk Γ b).e own sc r) | _ => false
  | .neg a => ckE fun own sc x => match x with | .UnaryOp .USub y _ => (chk Γ a).e own sc y | _ => false
  | .nt a => ckE fun own sc x => match x with | .UnaryOp .Not y _ => (chk Γ a).e own sc y | _ => false
  | .cmp o a b => ckE fun own sc x => match x with | .Compare l [op] [r] _ => decide (op = o.op) && ((chk Γ a).e own sc l && (chk Γ b).e own sc r) | _ => false
  | .chain o o' a b c => ckE fun own sc x => match x with | .Compare l [op, op'] [m, r] _ => decide (op = o.op) && (decide (op' = o'.op) && ((chk Γ a).e own sc l && ((chk Γ b).e own sc m && (chk Γ c).e own sc r))) | _ => false
  | .andE a b => ckE fun own sc x => match x with
    | .BoolOp .And [v, w] _ => (chk Γ a).e own sc v && (chk Γ b).e own sc w
    | .BoolOp .And (v :: w :: u :: r) pos => (chk Γ a).e own sc v && (chk Γ b).e own sc (.BoolOp .And (w :: u :: r) pos)
    | _ => false
  | .orE a b => ckE fun own sc x => match x with
    | .BoolOp .Or [v, w] _ => (chk Γ a).e own sc v && (chk Γ b).e own sc w
    | .BoolOp .Or (v :: w :: u :: r) pos => (chk Γ a).e own sc v && (chk Γ b).e own sc (.BoolOp .Or (w :: u :: r) pos)
    | _ => false
  | .ife t a b => ckE fun own sc x => match x with | .IfExp y v w _ => (chk Γ t).e own sc y && ((chk Γ a).e own sc v && (chk Γ b).e own sc w) | _ => false
  | .tup es => ckE fun own sc x => match x with | .Tuple xs _ _ => (chk Γ es).l own sc xs | _ => false
  | .lst es => ckE fun own sc x => match x with | .List xs _ => (chk Γ es).l own sc xs | _ => false
  | .nil => ⟨fun _ _ _ => false, fun _ _ xs => xs.isEmpty, fun _ _ o => o.isNone⟩
  | .cons e es => ⟨fun _ _ _ => false, fun own sc xs => match xs with | x :: r => (chk Γ e).e own sc x && (chk Γ es).l own sc r | [] => false, fun _ _ _ => false⟩
  | .ix a i => ckE fun own sc x => match x with | .Subscript v s _ => (chk Γ a).e own sc v && (chk Γ i).e own sc s | _ => false
  | .sl a lo hi => ckE fun own sc x => match x with | .Subscript v (.Slice l h none _) _ => (chk Γ a).e own sc v && ((chk Γ lo).op own sc l && (chk Γ hi).op own sc h) | _ => false
  | .blt b es => ckE fun own sc x => match x with | .Call (.Name n _) (y :: ys) [] _ => glB sc n && (decide (n = (b.id : Str)) && (chk Γ es).l own sc (y :: ys)) | _ => false
  | .lrg1 a => ckE fun own sc x => match x with
    | .Call (.Name n _) [.Call (.Name m _) [y] [] _] [] _ => glB sc n && (decide (n = ("list" : Str)) && (glB sc m && (decide (m = ("range" : Str)) && (chk Γ a).e own sc y))) | _ => false
  | .lrg2 a b => ckE fun own sc x => match x with
    | .Call (.Name n _) [.Call (.Name m _) [y, z] [] _] [] _ => glB sc n && (decide (n = ("list" : Str)) && (glB sc m && (decide (m = ("range" : Str)) && ((chk Γ a).e own sc y && (chk Γ b).e own sc z)))) | _ => false
  | .isi T a => ckE fun own sc x => match x with
    | .Call (.Name n _) [y, .Name m _] [] _ => glB sc n && (decide (n = ("isinstance" : Str)) && (glB sc m && (decide (m = (T.name : Str)) && (chk Γ a).e own sc y))) | _ => false
  | .call f es => ckE fun own sc x => match x with
    | .Call (.Name n _) ys [] _ => glB sc n && ((match Γ.F[f]? with | some p => decide (p.1 = n) | none => false) && (chk Γ es).l own sc ys) | _ => false
  | .meth m i es => ckE fun own sc x => match x with
    | .Call (.Attribute (.Name n _) at_ ap) ys [] cp => nmB Γ sc i n && (decide (at_ = (m.nm : Str)) && ((ap.endLine == cp.line) && (decide (ys.length ≤ 1) && (chk Γ es).l own sc ys))) | _ => false
  | .lc tg it src ifs elt ow => ckE fun own sc x => match x with
    | .ListComp el [⟨t, iter, is, 0⟩] scope _ => blkC Γ.N sc scope ow && (subB tg.slots (ow.map (·.2)) && (tgB Γ scope tg t && ((match is with
        | [] => (chk Γ ifs).op scope (relS scope sc) none
        | [c] => (chk Γ ifs).op scope (relS scope sc) (some c)
        | _ => false) && ((chk Γ elt).e scope (relS scope sc) el && (match it with
        | .seq => (chk Γ src).l own sc [iter] && plainE iter
        | _ => (match iter with
          | .Call (.Name n _) ys [] _ => glB sc n && (decide (n = ("range" : Str)) && ((chk Γ src).l own sc ys && (match it with | .rng1 => decide (ys.length = 1) | _ => decide (ys.length = 2))))
          | _ => false)))))) | _ => false

/-! ### where one stands -/
structure OX (Γ : Gm) (C : Fns) (k : Nat) (own sc : Scope) (X : Cx) : Prop where
  N : X.N = Γ.N
  nd : Γ.N.Nodup
  scp : X.env.scope = sc
  calm : X.calm = true
  xe : X.xe = fun _ _ => False
  room : Room k X.A
  nms : ∀ x ∈ Γ.N, (x == ("__debug__" : Str)) = false ∧ (x == ("__classdict__" : Str)) = false
  fn : ∀ x, locB own x = true → L2.Loc sc x ∧ (X.fn x = true ∨ sc.names.lookup x = some .local)
  glob : ∀ (j : Nat) (p : Str × PyData), Γ.G[j]? = some p → (p.1 == ("__debug__" : Str)) = false ∧ ∃ u v, X.mg p.1 = some u ∧ RelV v u ∧ ∀ Z H, RP X.K Z H v p.2
  blt : ∀ x ∈ bltNames, X.mg x = none
  fns : ∀ (f : Nat) (p : Str × Nat), Γ.F[f]? = some p → (p.1 == ("__debug__" : Str)) = false ∧ ∃ a fd ps, X.mg p.1 = some (.ref a) ∧ PySem.W.keepIn X.K (.ref a) = true ∧ Binds X.K fd ps [] ∧
    FnOk X.prog X.w X.K X.mg X.base CX0 k a fd ps (spF X.K p.2 (C f)) ∧ ∀ ds r, C f ds = some r → ds.length = p.2
section
variable {Γ : Gm} {C : Fns} {k : Nat} {own sc : Scope} {X : Cx}
theorem lookup_locB {sc : Scope} {x : Str} (h : locB sc x = true) : sc.names.lookup x = some .local ∨ sc.names.lookup x = some .cell := by
  unfold locB at h
  split at h
  · exact .inl (by assumption)
  · exact .inr (by assumption)
  · cases h
theorem OX.blk (O : OX Γ C k own sc X) (s : Shared) (H : Hp) (scope : Scope) (cl : List (Str × Addr)) (L : Addr) (fp : List Addr) : OX Γ C k scope (relS scope sc) (X.blk s H scope (compEnvC scope cl L X.env) fp) where
  N := O.N
  nd := O.nd
  scp := by rw [← O.scp]; rfl
  calm := O.calm
  xe := rfl
  room := O.room
  nms := O.nms
  fn := fun x h => by
    rcases lookup_locB h with e | e
    · have q : (relS scope sc).names.lookup x = some .local := lookup_relS_keep (by decide) e
      exact ⟨.inl q, .inr q⟩
    · have q : (relS scope sc).names.lookup x = some .cell := lookup_relS_keep (by decide) e
      refine ⟨.inr q, .inl ?_⟩
      show (scope.names.lookup x == some .cell) = true
      rw [e]; rfl
  glob := O.glob
  blt := O.blt
  fns := O.fns
theorem OX.gl (O : OX Γ C k own sc X) {x : Str} (h : glB sc x = true) : Gl X x := by
  show X.env.scope.names.lookup x = some .globalImplicit
  rw [O.scp]
  unfold glB at h
  split at h
  · assumption
  · cases h
theorem OX.vis (O : OX Γ C k own sc X) {x : Str} (h : visB sc x = true) : Vis X.env.scope x := by
  rw [O.scp]
  unfold visB at h
  split at h
  · exact .inl (by assumption)
  · exact .inr (.inl (by assumption))
  · exact .inr (.inr (by assumption))
  · cases h
theorem OX.var (O : OX Γ C k own sc X) {i : Nat} {x : Str} {pos : Pos} (h : nmB Γ sc i x = true) : PE X (.Name x pos) (tVar i) := by
  obtain ⟨h1, h2⟩ := Bool.and_eq_true_iff.mp h
  cases e : Γ.N[i]? with
  | none => rw [e] at h1; cases h1
  | some y =>
    rw [e] at h1
    obtain rfl := of_decide_eq_true h1
    obtain ⟨q1, q2⟩ := O.nms y (List.mem_of_getElem? e)
    exact pe_var (by rw [O.N]; exact e) (O.vis h2) q1 q2

/-! ### what is claimed of an expression -/
structure SE (X : Cx) (x : Expr) (m : M) : Prop where
  v : PE X x (tV X.K m.v)
  t : PT X x (tT X.K m.t)
  pw : ∀ op vs pos, x = .BoolOp op vs pos → PW X x (tT X.K m.t)
  o : PE X x (tO X.K m.o)
structure SL (X : Cx) (xs : List Expr) (m : M) : Prop where
  l : PA X xs (tOs X.K m.l)
  ps : PA X xs (tPs X.K m.ps)
  pl : xs.all plainE = true
structure SX (Γ : Gm) (C : Fns) (k : Nat) (e : E) : Prop where
  ex : ∀ own sc x, (chk Γ e).e own sc x = true → ∀ X, OX Γ C k own sc X → SE X x (ev C Γ.G e)
  l : ∀ own sc xs, (chk Γ e).l own sc xs = true → ∀ X, OX Γ C k own sc X → SL X xs (ev C Γ.G e)
  pl : ∀ own sc x, (chk Γ e).e own sc x = true → plainE x = true
  on : ∀ own sc, (chk Γ e).op own sc none = true → (ev C Γ.G e).isNil = true
  os : ∀ own sc x, (chk Γ e).op own sc (some x) = true → (chk Γ e).e own sc x = true ∧ (ev C Γ.G e).isNil = false
theorem SE.p {x : Expr} {m : M} (h : SE X x m) : PE X x (tP X.K m.p) := PE.imp h.v fun _ _ _ q => tP_of q
theorem SE.of {x : Expr} {f : EV → Option (D × EV)} (hv : PE X x (tV X.K f)) (he : ∀ whole, isTrue x X.env whole = (do let v ← whole; standAt x.pos; holding [v] (truthy v))) (nb : ∀ op vs pos, x ≠ .BoolOp op vs pos) : SE X x (mkV f) where
  v := hv
  t := PT.imp (pt_truth hv he) fun _ _ _ q => tT_of q
  pw := fun op vs pos e => absurd e (nb op vs pos)
  o := PE.imp hv fun _ _ _ q => tO_of q
theorem SX.of {Γ : Gm} {C : Fns} {k : Nat} {e : E} {f : Scope → Scope → Expr → Bool} (hc : chk Γ e = ckE f) (hn : (ev C Γ.G e).isNil = false)
    (h : ∀ own sc x, plainE x = true → f own sc x = true → ∀ X, OX Γ C k own sc X → SE X x (ev C Γ.G e)) : SX Γ C k e where
  ex := fun own sc x q X O => by
    rw [hc] at q
    obtain ⟨q1, q2⟩ := Bool.and_eq_true_iff.mp (show (plainE x && f own sc x) = true from q)
    exact h own sc x q1 q2 X O
  l := fun own sc xs q => by rw [hc] at q; cases q
  pl := fun own sc x q => by
    rw [hc] at q
    exact (Bool.and_eq_true_iff.mp (show (plainE x && f own sc x) = true from q)).1
  on := fun own sc q => by rw [hc] at q; cases q
  os := fun own sc x q => by
    rw [hc] at q
    refine ⟨?_, hn⟩
    rw [hc]
    exact q
theorem star_cons {x : Expr} {xs : List Expr} {env : Env} (h : plainE x = true) : starEach (x :: xs) env = (false, eval x env) :: starEach xs env := by
  cases x <;> first | rfl | (exact absurd h (by intro z; cases z))
theorem star_any {pos : Pos} {env : Env} : ∀ {xs : List Expr}, xs.all plainE = true → (backTo pos (starEach xs env)).any (·.1) = false
  | [], _ => rfl
  | x :: xs, h => by
    rw [List.all_cons, Bool.and_eq_true] at h
    rw [star_cons h.1]
    have ih := star_any (pos := pos) (env := env) h.2
    show (false || (backTo pos (starEach xs env)).any (·.1)) = false
    rw [ih]; rfl
theorem nomark_plain {x : Expr} {op : CmpOp} (h : plainE x = true) : behindInMarks op x = false := by
  cases x <;> first | rfl | (exact absurd h (by intro z; cases z))
theorem ix_plain {x : Expr} (h : plainE x = true) : PlainIx x := by
  cases x <;> first | (intro _ _; rfl) | (exact absurd h (by intro z; cases z))
theorem and2 {a b : Bool} (h : (a && b) = true) : a = true ∧ b = true := Bool.and_eq_true_iff.mp h

/-! ### the constructors, one by one -/
theorem tChain_mono {r r' : R2} {ta tb tc : TE} {σ : L2.St} {H : Hp} {Q Q' : VK} (hr : ∀ x y H (Q Q' : VK), (∀ v H, Q v H → Q' v H) → r x y H Q → r x y H Q') (hr' : ∀ x y H (Q Q' : VK), (∀ v H, Q v H → Q' v H) → r' x y H Q → r' x y H Q')
    (h1 : ∀ σ H (Q Q' : VK), (∀ v H, Q v H → Q' v H) → ta σ H Q → ta σ H Q') (h2 : ∀ σ H (Q Q' : VK), (∀ v H, Q v H → Q' v H) → tb σ H Q → tb σ H Q') (h3 : ∀ σ H (Q Q' : VK), (∀ v H, Q v H → Q' v H) → tc σ H Q → tc σ H Q')
    (w : ∀ v H, Q v H → Q' v H) (h : tChain r r' ta tb tc σ H Q) : tChain r r' ta tb tc σ H Q' :=
  h1 _ _ _ _ (fun x H1 q1 => h2 _ _ _ _ (fun y H2 q2 => hr _ _ _ _ _ (fun z H3 ⟨kk, e, q3⟩ => ⟨kk, e, by
    cases kk with
    | true => exact iteT (h3 _ _ _ _ (fun u H4 q4 => hr' _ _ _ _ _ w q4) ((if_pos rfl).mp q3))
    | false => exact iteF (w _ _ ((if_neg Bool.false_ne_true).mp q3))⟩) q2) q1) h
theorem sx_con {c : PyData} : SX Γ C k (.con c) := .of rfl rfl fun own sc x pl h X O => by
  cases x with
  | Constant kc j pos =>
    have h' : constB c kc = true := h
    refine .of ?_ (fun _ => rfl) (fun _ _ _ q => nomatch q)
    cases c with
    | none => cases kc <;> first | (cases h'; done) | exact PE.imp pe_non fun _ _ _ q => con_of (fun _ _ => .non) q
    | bool a =>
      cases kc with
      | bool b =>
        obtain rfl : a = b := eq_of_beq h'
        exact PE.imp pe_bl fun _ _ _ q => con_of (fun _ _ => .bl _) q
      | _ => cases h'
    | int a =>
      cases kc with
      | int b =>
        obtain rfl := of_decide_eq_true h'
        exact PE.imp pe_int fun _ _ _ q => con_of (fun _ _ => .int _) q
      | _ => cases h'
    | str a =>
      cases kc with
      | str b =>
        obtain rfl := of_decide_eq_true h'
        exact PE.imp pe_str fun _ _ _ q => con_of (fun _ _ => .str _) q
      | _ => cases h'
    | _ => cases kc <;> cases h'
  | _ => cases h
theorem sx_glob {j : Nat} : SX Γ C k (.glob j) := .of rfl rfl fun own sc x pl h X O => by
  cases x with
  | Name n pos =>
    obtain ⟨h1, h2⟩ := and2 h
    cases e : Γ.G[j]? with
    | none => rw [e] at h2; cases h2
    | some p =>
      rw [e] at h2
      obtain rfl := of_decide_eq_true h2
      obtain ⟨nd, u, v, hm, r, rp⟩ := O.glob j p e
      refine .of (PE.imp (pe_glob (O.gl h1) hm r nd) fun σ H Q q => ?_) (fun _ => rfl) (fun _ _ _ q => nomatch q)
      obtain ⟨Z, ρ, d, ρ', R, e', kk⟩ := q
      have e' : (Γ.G[j]?).map (fun c => (D.p c.2, ρ)) = some (d, ρ') := e'
      rw [e] at e'
      cases e'
      exact kk v H Z (.refl R) (rp Z H) .p
  | _ => cases h
theorem sx_var {i : Nat} : SX Γ C k (.var i) := .of rfl rfl fun own sc x pl h X O => by
  cases x with
  | Name n pos =>
    have hv := O.var (pos := pos) h
    have B : SE X (.Name n pos) (mkV fun ρ => (frz ρ i).map fun (x, ρ') => (.p x, ρ')) := .of (PE.imp hv fun _ _ _ q => frz_of q) (fun _ => rfl) (fun _ _ _ q => nomatch q)
    exact ⟨B.v, B.t, B.pw, PE.imp hv fun _ _ _ q => varO_of q⟩
  | _ => cases h
theorem sx_mov {i : Nat} : SX Γ C k (.mov i) := .of rfl rfl fun own sc x pl h X O => by
  cases x with
  | Name n pos => exact .of (PE.imp (O.var (pos := pos) h) fun _ _ _ q => take_of q) (fun _ => rfl) (fun _ _ _ q => nomatch q)
  | _ => cases h
section
variable {a b c : E} (ha : SX Γ C k a) (hb : SX Γ C k b) (hc : SX Γ C k c)
include ha
theorem sx_neg : SX Γ C k (.neg a) := .of rfl rfl fun own sc x pl h X O => by
  cases x with
  | UnaryOp op y pos =>
    cases op with
    | USub => exact .of (PE.imp (pe_un un_negD (ha.ex own sc _ h X O).o) fun _ _ _ q => un1_of q) (fun _ => rfl) (fun _ _ _ q => nomatch q)
    | _ => cases h
  | _ => cases h
theorem sx_nt : SX Γ C k (.nt a) := .of rfl rfl fun own sc x pl h X O => by
  cases x with
  | UnaryOp op y pos =>
    cases op with
    | Not =>
      have A := ha.ex own sc _ h X O
      have hv : PE X (.UnaryOp .Not y pos) (tV X.K (vOfT (notT (tOfV (ev C Γ.G a).v)))) := PE.imp (pe_notT A.v) fun σ H Q q => by
        have q2 := tT_of (Q := fun b H' => Q (.bl (!b)) H') (show tT X.K (tOfV (ev C Γ.G a).v) σ H fun b H' => Q (.bl (!b)) H' from by
          obtain ⟨Z, ρ, d, ρ', R, e, kk⟩ := tVT_of q
          obtain ⟨⟨c, ρ1⟩, e1, e2⟩ := Option.map_eq_some_iff.mp e
          cases e2
          exact ⟨Z, ρ, c, ρ', R, e1, kk⟩)
        exact q2
      exact ⟨hv, PT.imp (pt_not A.t) fun _ _ _ q => notT_of q, (fun _ _ _ q => nomatch q), PE.imp hv fun _ _ _ q => tO_of q⟩
    | _ => cases h
  | _ => cases h
theorem sx_isi {T : Ty} : SX Γ C k (.isi T a) := .of rfl rfl fun own sc x pl h X O => by
  cases x with
  | Call f args kws pos =>
    cases f with
    | Name n np =>
      match args, kws, h with
      | [y, .Name m mp], [], h =>
        obtain ⟨g1, h1⟩ := and2 h
        obtain ⟨e1, h2⟩ := and2 h1
        obtain ⟨g2, h3⟩ := and2 h2
        obtain ⟨e2, h4⟩ := and2 h3
        obtain rfl := of_decide_eq_true e1
        obtain rfl := of_decide_eq_true e2
        have A := ha.ex own sc _ h4 X O
        have py := ha.pl own sc _ h4
        have hT : X.mg (T.name : Str) = none := O.blt _ (by cases T <;> decide +kernel)
        have bT : bootBuiltins (T.name : Str) = some (.type T.name) := by cases T <;> decide +kernel
        have pT : PE X (.Name (T.name : Str) mp) (tC (.ty T.name)) := pe_bltn (O.gl g2) hT bT rfl (by cases T <;> decide +kernel) (by cases T <;> decide +kernel)
        have hB := pe_callB (pos := pos) (p := np) (x := "isinstance") (call_isi (X := X)) (O.gl g1) (O.blt _ (by decide +kernel)) (by decide +kernel) (pa_cons A.o (pa_cons pT pa_nil (star_cons rfl)) (star_cons py)) (he := star_cons py) (hpl := star_any rfl)
        refine .of (PE.imp hB fun σ H Q q => ?_) (fun _ => rfl) (fun _ _ _ q => nomatch q)
        obtain ⟨Z, ρ, d, ρ', R, e, kk⟩ := q
        obtain ⟨⟨x, ρ1⟩, e1, e⟩ := Option.bind_eq_some_iff.mp e
        obtain ⟨px, e3, e⟩ := Option.bind_eq_some_iff.mp e
        obtain ⟨d', e5, e6⟩ := Option.map_eq_some_iff.mp e
        cases e6
        obtain ⟨b, e7, e8⟩ := Option.map_eq_some_iff.mp e5
        subst e8
        refine ⟨Z, ρ, x, ρ', R, e1, fun v1 H1 Z1 A1 o1 => ?_⟩
        obtain ⟨kb, nd⟩ := isi_ok e7
        exact ⟨v1, _, _, _, b, rfl, .ty _, ty_of (o1.rb A1.rs e3) nd, kit_ty kb, kk _ H1 Z1 A1 (.bl b) .p⟩
    | _ => cases h
  | _ => cases h
theorem sx_lrg1 : SX Γ C k (.lrg1 a) := .of rfl rfl fun own sc x pl h X O => by
  cases x with
  | Call f args kws pos =>
    cases f with
    | Name n np =>
      match args, kws, h with
      | [.Call (.Name m mp) [y] [] p2], [], h =>
        obtain ⟨g1, h1⟩ := and2 h
        obtain ⟨e1, h2⟩ := and2 h1
        obtain ⟨g2, h3⟩ := and2 h2
        obtain ⟨e2, h4⟩ := and2 h3
        obtain rfl := of_decide_eq_true e1
        obtain rfl := of_decide_eq_true e2
        have A := ha.ex own sc _ h4 X O
        have py := ha.pl own sc _ h4
        refine .of (PE.imp (pe_listRg O.calm (O.gl g1) (O.blt _ (by decide +kernel)) (prg_1 (O.gl g2) (O.blt _ (by decide +kernel)) A.o (star_cons py)) (star_cons rfl)) fun σ H Q q => ?_) (fun _ => rfl) (fun _ _ _ q => nomatch q)
        obtain ⟨Z, ρ, d, ρ', R, e, kk⟩ := q
        obtain ⟨⟨x, ρ1⟩, e1, e⟩ := Option.bind_eq_some_iff.mp e
        obtain ⟨px, e3, e⟩ := Option.bind_eq_some_iff.mp e
        obtain ⟨d', e5, e6⟩ := Option.map_eq_some_iff.mp e
        cases e6
        obtain ⟨b, e7, e8⟩ := Option.map_eq_some_iff.mp e5
        subst e8
        refine ⟨Z, ρ, x, ρ', R, e1, fun v1 H1 Z1 A1 o1 => ?_⟩
        have rb := o1.rb A1.rs e3
        cases px with
        | int n =>
          obtain rfl := rb.int
          obtain ⟨ok, e7⟩ := ite_some (show (if okRng 0 n = true then some (rngL 0 n) else none) = some b from e7)
          subst e7
          unfold okRng at ok
          simp only [Bool.and_eq_true, decide_eq_true_eq] at ok
          refine ⟨n, rfl, ok, fun p hp => ?_⟩
          have nd : NewD X.K Z1 H1 (.ref p) (upd H1 p (.lst (rgV 0 n))) (.own (rngL 0 n)) := .lst hp (by
            unfold rgV rngL
            generalize (List.range (n - 0).toNat) = l
            induction l with
            | nil => exact .nil
            | cons z zs ih => exact .cons (.int _) ih)
          obtain ⟨A3, r, oo⟩ := NewD.fin A1 nd
          exact kk _ _ Z1 A3 r oo
        | _ => cases e7
    | _ => cases h
  | _ => cases h
include hb
theorem sx_bin {o : Bop} : SX Γ C k (.bin o a b) := .of rfl rfl fun own sc x pl h X O => by
  cases x with
  | BinOp l op r pos =>
    obtain ⟨h1, h2⟩ := and2 h
    obtain ⟨h2, h3⟩ := and2 h2
    obtain rfl := of_decide_eq_true h1
    exact .of (PE.imp (pe_op (op_binD o) (ha.ex own sc _ h2 X O).o (hb.ex own sc _ h3 X O).o) fun _ _ _ q => bin2_of q) (fun _ => rfl) (fun _ _ _ q => nomatch q)
  | _ => cases h
theorem sx_cmp {o : Cop} : SX Γ C k (.cmp o a b) := .of rfl rfl fun own sc x pl h X O => by
  cases x with
  | Compare l ops rs pos =>
    match ops, rs, h with
    | [op], [r], h =>
      obtain ⟨h1, h2⟩ := and2 h
      obtain ⟨h2, h3⟩ := and2 h2
      obtain rfl := of_decide_eq_true h1
      have A := ha.ex own sc _ h2 X O
      have B := hb.ex own sc _ h3 X O
      have nm : behindInMarks o.op r = false := nomark_plain (hb.pl own sc _ h3)
      have hv : PE X (.Compare l [o.op] [r] pos) (tV X.K (vOfT (cmp2 (cmpS o) (ev C Γ.G a).o (ev C Γ.G b).o))) := PE.imp (pe_cmpR (op_cmpD o O.room.units) A.o B.o nm) fun σ H Q q =>
        tOp_mono (fun _ _ _ _ _ w h => rC_mono _ _ _ _ _ w h) tO_mono tO_mono (fun v H ⟨kk, e, q⟩ => by subst e; exact q) (cmp2_of (tVT_of q))
      exact ⟨hv, PT.imp (pt_cmpR (op_cmpD o O.room.units) A.o B.o nm) fun _ _ _ q => cmp2_of q, (fun _ _ _ q => nomatch q), PE.imp hv fun _ _ _ q => tO_of q⟩
  | _ => cases h
theorem sx_ix : SX Γ C k (.ix a b) := .of rfl rfl fun own sc x pl h X O => by
  cases x with
  | Subscript l r pos =>
    obtain ⟨h2, h3⟩ := and2 h
    exact .of (PE.imp (pe_ix ix_D (ha.ex own sc _ h2 X O).o (hb.ex own sc _ h3 X O).o (ix_plain (hb.pl own sc _ h3))) fun _ _ _ q => bin2_of q) (fun _ => rfl) (fun _ _ _ q => nomatch q)
  | _ => cases h
theorem sx_andE : SX Γ C k (.andE a b) := .of rfl rfl fun own sc x pl h X O => by
  cases x with
  | BoolOp op vs pos =>
    match op, vs, h with
    | .And, [v, w], h =>
      obtain ⟨h2, h3⟩ := and2 h
      have A := ha.ex own sc _ h2 X O
      have B := hb.ex own sc _ h3 X O
      have hv : PE X (.BoolOp .And [v, w] pos) (tV X.K (andV (ev C Γ.G a).p (ev C Γ.G b).v)) := PE.imp (pe_andT A.p (pe_one B.v)) fun _ _ _ q => andV_of q
      have hw : PW X (.BoolOp .And [v, w] pos) (tT X.K (andT (ev C Γ.G a).t (ev C Γ.G b).t)) := PW.imp (pw_and A.t (pw_and1 B.t)) fun _ _ _ q => andT_of q
      exact ⟨hv, hw.pt, fun _ _ _ _ => hw, PE.imp hv fun _ _ _ q => tO_of q⟩
    | .And, v :: w :: u :: r, h =>
      obtain ⟨h2, h3⟩ := and2 h
      have A := ha.ex own sc _ h2 X O
      have B := hb.ex own sc _ h3 X O
      have hv : PE X (.BoolOp .And (v :: w :: u :: r) pos) (tV X.K (andV (ev C Γ.G a).p (ev C Γ.G b).v)) := PE.imp (pe_andT A.p B.v) fun _ _ _ q => andV_of q
      have hw : PW X (.BoolOp .And (v :: w :: u :: r) pos) (tT X.K (andT (ev C Γ.G a).t (ev C Γ.G b).t)) := PW.imp (pw_and A.t (B.pw _ _ _ rfl)) fun _ _ _ q => andT_of q
      exact ⟨hv, hw.pt, fun _ _ _ _ => hw, PE.imp hv fun _ _ _ q => tO_of q⟩
  | _ => cases h
theorem sx_orE : SX Γ C k (.orE a b) := .of rfl rfl fun own sc x pl h X O => by
  cases x with
  | BoolOp op vs pos =>
    match op, vs, h with
    | .Or, [v, w], h =>
      obtain ⟨h2, h3⟩ := and2 h
      have A := ha.ex own sc _ h2 X O
      have B := hb.ex own sc _ h3 X O
      have hv : PE X (.BoolOp .Or [v, w] pos) (tV X.K (orV (ev C Γ.G a).p (ev C Γ.G b).v)) := PE.imp (pe_orT A.p (pe_one B.v)) fun _ _ _ q => orV_of q
      have hw : PW X (.BoolOp .Or [v, w] pos) (tT X.K (orT (ev C Γ.G a).t (ev C Γ.G b).t)) := PW.imp (pw_or A.t (pw_or1 B.t)) fun _ _ _ q => orT_of q
      exact ⟨hv, hw.pt, fun _ _ _ _ => hw, PE.imp hv fun _ _ _ q => tO_of q⟩
    | .Or, v :: w :: u :: r, h =>
      obtain ⟨h2, h3⟩ := and2 h
      have A := ha.ex own sc _ h2 X O
      have B := hb.ex own sc _ h3 X O
      have hv : PE X (.BoolOp .Or (v :: w :: u :: r) pos) (tV X.K (orV (ev C Γ.G a).p (ev C Γ.G b).v)) := PE.imp (pe_orT A.p B.v) fun _ _ _ q => orV_of q
      have hw : PW X (.BoolOp .Or (v :: w :: u :: r) pos) (tT X.K (orT (ev C Γ.G a).t (ev C Γ.G b).t)) := PW.imp (pw_or A.t (B.pw _ _ _ rfl)) fun _ _ _ q => orT_of q
      exact ⟨hv, hw.pt, fun _ _ _ _ => hw, PE.imp hv fun _ _ _ q => tO_of q⟩
  | _ => cases h
theorem sx_lrg2 : SX Γ C k (.lrg2 a b) := .of rfl rfl fun own sc x pl h X O => by
  cases x with
  | Call f args kws pos =>
    cases f with
    | Name n np =>
      match args, kws, h with
      | [.Call (.Name m mp) [y, z] [] p2], [], h =>
        obtain ⟨g1, h1⟩ := and2 h
        obtain ⟨e1, h2⟩ := and2 h1
        obtain ⟨g2, h3⟩ := and2 h2
        obtain ⟨e2, h4⟩ := and2 h3
        obtain ⟨h5, h9⟩ := and2 h4
        obtain rfl := of_decide_eq_true e1
        obtain rfl := of_decide_eq_true e2
        have A := ha.ex own sc _ h5 X O
        have B := hb.ex own sc _ h9 X O
        have py := ha.pl own sc _ h5
        have pz := hb.pl own sc _ h9
        refine .of (PE.imp (pe_listRg O.calm (O.gl g1) (O.blt _ (by decide +kernel)) (prg_2 (O.gl g2) (O.blt _ (by decide +kernel)) A.o B.o (star_cons py) (star_cons pz) (star_any (by rw [List.all_cons, pz]; rfl))) (star_cons rfl)) fun σ H Q q => ?_) (fun _ => rfl) (fun _ _ _ q => nomatch q)
        obtain ⟨Z, ρ, d, ρ', R, e, kk⟩ := q
        obtain ⟨⟨x, ρ1⟩, e1, e⟩ := Option.bind_eq_some_iff.mp e
        obtain ⟨⟨y2, ρ2⟩, e2, e⟩ := Option.bind_eq_some_iff.mp e
        obtain ⟨px, e3, e⟩ := Option.bind_eq_some_iff.mp e
        obtain ⟨py2, e4, e⟩ := Option.bind_eq_some_iff.mp e
        obtain ⟨d', e5, e6⟩ := Option.map_eq_some_iff.mp e
        cases e6
        obtain ⟨b', e7, e8⟩ := Option.map_eq_some_iff.mp e5
        subst e8
        refine ⟨Z, ρ, x, ρ1, R, e1, fun v1 H1 Z1 A1 o1 => ⟨Z1, ρ1, y2, ρ', A1.rs, e2, fun v2 H2 Z2 A2 o2 => ?_⟩⟩
        have rb1 := (o1.after A2 A1.rs).rb A2.rs e3
        have rb2 := o2.rb A2.rs e4
        cases px with
        | int m =>
          cases py2 with
          | int n =>
            obtain rfl := rb1.int
            obtain rfl := rb2.int
            obtain ⟨ok, e7⟩ := ite_some (show (if okRng m n = true then some (rngL m n) else none) = some b' from e7)
            subst e7
            unfold okRng at ok
            simp only [Bool.and_eq_true, decide_eq_true_eq] at ok
            refine ⟨m, n, rfl, rfl, ok, fun p hp => ?_⟩
            have nd : NewD X.K Z2 H2 (.ref p) (upd H2 p (.lst (rgV m n))) (.own (rngL m n)) := .lst hp (by
              unfold rgV rngL
              generalize (List.range (n - m).toNat) = l
              induction l with
              | nil => exact .nil
              | cons z zs ih => exact .cons (.int _) ih)
            obtain ⟨A3, r, oo⟩ := NewD.fin (A1.trans A2) nd
            exact kk _ _ Z2 A3 r oo
          | _ => cases e7
        | _ => cases e7
    | _ => cases h
  | _ => cases h
include hc
theorem sx_chain {o o' : Cop} : SX Γ C k (.chain o o' a b c) := .of rfl rfl fun own sc x pl h X O => by
  cases x with
  | Compare l ops rs pos =>
    match ops, rs, h with
    | [op, op'], [m, r], h =>
      obtain ⟨h1, h6⟩ := and2 h
      obtain ⟨h2, h7⟩ := and2 h6
      obtain ⟨h3, h8⟩ := and2 h7
      obtain ⟨h4, h5⟩ := and2 h8
      obtain rfl := of_decide_eq_true h1
      obtain rfl := of_decide_eq_true h2
      have A := ha.ex own sc _ h3 X O
      have B := hb.ex own sc _ h4 X O
      have D' := hc.ex own sc _ h5 X O
      have nm : lastMarks [o.op, o'.op] [m, r] = false := nomark_plain (hc.pl own sc _ h5)
      have hv : PE X (.Compare l [o.op, o'.op] [m, r] pos) (tV X.K (vOfT (chain3 (cmpS o) (cmpS o') (ev C Γ.G a).o (ev C Γ.G b).o (ev C Γ.G c).o))) := PE.imp (pe_chain (op_cmpD o O.room.units) (op_cmpD o' O.room.units) A.o B.o D'.o nm) fun σ H Q q =>
        tChain_mono (fun _ _ _ _ _ w h => rC_mono _ _ _ _ _ w h) (fun _ _ _ _ _ w h => rC_mono _ _ _ _ _ w h) tO_mono tO_mono tO_mono (fun v H ⟨kk, e, q⟩ => by subst e; exact q) (chain3_of (tVT_of q))
      exact ⟨hv, PT.imp (pt_chain (op_cmpD o O.room.units) (op_cmpD o' O.room.units) A.o B.o D'.o nm) fun _ _ _ q => chain3_of q, (fun _ _ _ q => nomatch q), PE.imp hv fun _ _ _ q => tO_of q⟩
  | _ => cases h
theorem sx_ife : SX Γ C k (.ife a b c) := .of rfl rfl fun own sc x pl h X O => by
  cases x with
  | IfExp t y z pos =>
    obtain ⟨h1, h6⟩ := and2 h
    obtain ⟨h2, h3⟩ := and2 h6
    have hv : PE X (.IfExp t y z pos) (tV X.K (ifV (ev C Γ.G a).t (ev C Γ.G b).v (ev C Γ.G c).v)) := PE.imp (pe_ifExp (ha.ex own sc _ h1 X O).t (hb.ex own sc _ h2 X O).v (hc.ex own sc _ h3 X O).v) fun _ _ _ q => ifV_of q
    exact ⟨hv, ⟨fun pins s σ H Q I q => by obtain ⟨_, _, _, _, _, e, _⟩ := q; cases e⟩, (fun _ _ _ q => nomatch q), PE.imp hv fun _ _ _ q => tO_of q⟩
  | _ => cases h
theorem sx_sl : SX Γ C k (.sl a b c) := .of rfl rfl fun own sc x pl h X O => by
  cases x with
  | Subscript l r pos =>
    cases r with
    | Slice lo hi st p2 =>
      cases st with
      | none =>
        obtain ⟨h1, h6⟩ := and2 h
        obtain ⟨h2, h3⟩ := and2 h6
        have part : ∀ {e : E} {oe : Option Expr}, SX Γ C k e → (chk Γ e).op own sc oe = true → PO X oe (tPt X.K (partI (ev C Γ.G e))) := fun {e oe} he hq => by
          cases oe with
          | none =>
            have hn := he.on own sc hq
            exact ⟨fun pins s σ H Q I q => po_none.run pins s σ H Q I (partN_of hn q)⟩
          | some y =>
            obtain ⟨q1, q2⟩ := he.os own sc _ hq
            exact ⟨fun pins s σ H Q I q => (po_some (he.ex own sc _ q1 X O).v).run pins s σ H Q I (partS_of q2 q)⟩
        exact .of (PE.imp (pe_slice sl_D (ha.ex own sc _ h1 X O).o (part hb h2) (part hc h3)) fun _ _ _ q => slV_of q) (fun _ => rfl) (fun _ _ _ q => nomatch q)
      | some _ => cases h
    | _ => cases h
  | _ => cases h
end
end
end Pv

set_option Elab.async false
set_option linter.all false
set_option maxRecDepth 100000
set_option maxHeartbeats 8000000
/-! EvE2: the soundness of expressions, further. -/
namespace Pv
open PySem PySem.Spec PyProof.Rows L2
section
variable {Γ : Gm} {C : Fns} {k : Nat} {own sc : Scope} {X : Cx}
theorem sx_nil : SX Γ C k .nil where
  ex := fun own sc x h => by cases h
  l := fun own sc xs h X O => by
    have e : xs = [] := List.isEmpty_iff.mp h
    subst e
    exact ⟨PA.imp pa_nil fun _ _ _ q => nilO_of q, PA.imp pa_nil fun _ _ _ q => nilP_of q, rfl⟩
  pl := fun own sc x h => by cases h
  on := fun own sc h => rfl
  os := fun own sc x h => by cases h
theorem sx_cons {a b : E} (ha : SX Γ C k a) (hb : SX Γ C k b) : SX Γ C k (.cons a b) where
  ex := fun own sc x h => by cases h
  l := fun own sc xs h X O => by
    cases xs with
    | nil => cases h
    | cons x r =>
      obtain ⟨h1, h2⟩ := and2 h
      have A := ha.ex own sc _ h1 X O
      have B := hb.l own sc _ h2 X O
      have px := ha.pl own sc _ h1
      exact ⟨PA.imp (pa_cons A.o B.l (star_cons px)) fun _ _ _ q => consO_of q, PA.imp (pa_cons A.p B.ps (star_cons px)) fun _ _ _ q => consP_of q, by rw [List.all_cons, px, B.pl] <;> rfl⟩
  pl := fun own sc x h => by cases h
  on := fun own sc h => by cases h
  os := fun own sc x h => by cases h
theorem sx_tup {a : E} (ha : SX Γ C k a) : SX Γ C k (.tup a) := .of rfl rfl fun own sc x pl h X O => by
  cases x with
  | Tuple xs j pos => exact .of (PE.imp (pe_tup (ha.l own sc _ h X O).ps) fun _ _ _ q => tup_of q) (fun _ => rfl) (fun _ _ _ q => nomatch q)
  | _ => cases h
theorem sx_lst {a : E} (ha : SX Γ C k a) : SX Γ C k (.lst a) := .of rfl rfl fun own sc x pl h X O => by
  cases x with
  | List xs pos => exact .of (PE.imp (pe_lst (ha.l own sc _ h X O).ps) fun _ _ _ q => lst_of q) (fun _ => rfl) (fun _ _ _ q => nomatch q)
  | _ => cases h
theorem sx_blt {b : Blt} {a : E} (ha : SX Γ C k a) : SX Γ C k (.blt b a) := .of rfl rfl fun own sc x pl h X O => by
  cases x with
  | Call f args kws pos =>
    cases f with
    | Name n np =>
      match args, kws, h with
      | y :: ys, [], h =>
        obtain ⟨g1, h1⟩ := and2 h
        obtain ⟨e1, h2⟩ := and2 h1
        obtain rfl := of_decide_eq_true e1
        have A := ha.l own sc _ h2 X O
        have py := A.pl
        rw [List.all_cons, Bool.and_eq_true] at py
        have hm : X.mg (b.id : Str) = none := O.blt _ (by cases b <;> decide +kernel)
        have hB : PE X (.Call (.Name (b.id : Str) np) (y :: ys) [] pos) (tCB (rBs X.K (bltS b)) (tOs X.K (ev C Γ.G a).l)) := by
          have hc := blt_D (X := X) b O.calm
          have hv := b.boot
          unfold Blt.val at hc hv
          cases ht : b.isTy with
          | true =>
            rw [ht] at hc hv
            exact pe_callTy hc (O.gl g1) hm hv A.l b.name.1 b.name.2 (star_cons py.1) (star_any py.2)
          | false =>
            rw [ht] at hc hv
            exact pe_callB hc (O.gl g1) hm hv A.l b.name.1 b.name.2 (star_cons py.1) (star_any py.2)
        exact .of (PE.imp hB fun _ _ _ q => lst1_of q) (fun _ => rfl) (fun _ _ _ q => nomatch q)
    | _ => cases h
  | _ => cases h
theorem sx_call {f : Nat} {a : E} (ha : SX Γ C k a) : SX Γ C k (.call f a) := .of rfl rfl fun own sc x pl h X O => by
  cases x with
  | Call fe args kws pos =>
    cases fe with
    | Name n np =>
      cases kws with
      | cons _ _ => cases h
      | nil =>
        obtain ⟨g1, h1⟩ := and2 h
        obtain ⟨e1, h2⟩ := and2 h1
        cases e : Γ.F[f]? with
        | none => rw [e] at e1; cases e1
        | some p =>
          rw [e] at e1
          obtain rfl := of_decide_eq_true e1
          have A := ha.l own sc _ h2 X O
          obtain ⟨nd, ad, fd, ps, hm, hk, hb, hF, hC⟩ := O.fns f p e
          have hB : PE X (.Call (.Name p.1 np) args [] pos) (tCall (spF X.K p.2 (C f)) [] E0 (tOs X.K (ev C Γ.G a).l)) := by
            cases args with
            | nil =>
              refine PE.imp (pe_call0 hF O.room (O.gl g1) hm hk hb .nil pass0 nd) (fun σ H Q q => ?_)
              obtain ⟨Z, ρ, os, ρ', R, e3, kk⟩ := q
              cases a with
              | nil =>
                cases e3
                exact kk [] H Z (.refl R) .nil
              | cons _ _ => cases h2
              | _ => cases h2
            | cons y ys =>
              have py := A.pl
              rw [List.all_cons, Bool.and_eq_true] at py
              exact pe_call hF O.room (O.gl g1) hm hk hb .nil pass0 A.l nd (star_cons py.1) (star_any py.2)
          exact .of (PE.imp hB fun _ _ _ q => callV_of hC q) (fun _ => rfl) (fun _ _ _ q => nomatch q)
    | _ => cases h
  | _ => cases h
theorem sx_meth {m : Mth} {i : Nat} {a : E} (ha : SX Γ C k a) : SX Γ C k (.meth m i a) := .of rfl rfl fun own sc x pl h X O => by
  cases x with
  | Call fe args kws pos =>
    cases fe with
    | Attribute o at_ ap =>
      cases o with
      | Name n np =>
        cases kws with
        | cons _ _ => cases h
        | nil =>
          obtain ⟨g1, h1⟩ := and2 h
          obtain ⟨e1, h2⟩ := and2 h1
          obtain ⟨e2, h3⟩ := and2 h2
          obtain ⟨e3, h4⟩ := and2 h3
          obtain rfl := of_decide_eq_true e1
          have A := ha.l own sc _ h4 X O
          have hB : PE X (.Call (.Attribute (.Name n np) (m.nm : Str) ap) args [] pos) (tBM X.K "list" (rM X.K m) (tVar i) (tPs X.K (ev C Γ.G a).ps)) := by
            match args, e3, h4, A with
            | [], _, h4, A =>
              refine PE.imp (pe_bm0 PySem.F.plainAttrs_list m.slot m.type (mth_D m) (O.var g1) rfl e2) fun σ H Q q => ?_
              obtain ⟨v, hv, ty, Z, ρ, os, ρ', R, e4, kk⟩ := q
              cases a with
              | nil =>
                cases e4
                exact ⟨v, hv, ty, kk [] H Z (.refl R) .nil⟩
              | cons _ _ => cases h4
              | _ => cases h4
            | [y], _, h4, A =>
              have py := A.pl
              rw [List.all_cons, Bool.and_eq_true] at py
              refine pe_bm PySem.F.plainAttrs_list m.slot m.type (mth_D m) (O.var g1) A.ps rfl ?_ e2 (star_cons py.1) rfl
              rw [star_cons py.1] <;> rfl
            | _ :: _ :: _, e3, _, _ => exact absurd (of_decide_eq_true e3) (by simp)
          exact .of (PE.imp hB fun _ _ _ q => methV_of q) (fun _ => rfl) (fun _ _ _ q => nomatch q)
      | _ => cases h
    | _ => cases h
  | _ => cases h

/-! ### targets -/
theorem tgName (O : OX Γ C k own sc X) {i : Nat} {x : Str} {pos : Pos} (h1 : (match Γ.N[i]? with | some y => decide (y = x) | none => false) = true) (h2 : locB own x = true) : PG X (.Name x pos) (gName i) := by
  cases e : Γ.N[i]? with
  | none => rw [e] at h1; cases h1
  | some y =>
    rw [e] at h1
    obtain rfl := of_decide_eq_true h1
    obtain ⟨q1, q2⟩ := O.fn y h2
    exact pg_name (by rw [O.N]; exact O.nd) (by rw [O.N]; exact e) (by rw [O.scp]; exact q1) (by rw [O.scp]; exact q2)
theorem PG.imp {tg : Expr} {t t' : TG} (h : PG X tg t) (w : ∀ v σ H Q, t' v σ H Q → t v σ H Q) : PG X tg t' := ⟨fun pins s σ H v u Q I r q => h.run pins s σ H v u Q I r (w _ _ _ _ q)⟩
theorem PGs.imp {tg : List Expr} {t t' : TGs} (h : PGs X tg t) (w : ∀ v σ H Q, t' v σ H Q → t v σ H Q) : PGs X tg t' := ⟨fun pins s σ H v u Q I r q => h.run pins s σ H v u Q I r (w _ _ _ _ q)⟩
theorem tgs_ok (O : OX Γ C k own sc X) : ∀ {is : List Nat} {xs : List Expr}, tgsB Γ own is xs = true → PGs X xs (tGs X.K is) ∧ (assignEach xs X.env).length = is.length ∧ (assignEach xs X.env).findIdx? (·.1) = none
  | [], [], _ => ⟨PGs.imp pgs_nil fun _ _ _ _ q => gNil_of q, rfl, rfl⟩
  | [], _ :: _, h => by cases h
  | _ :: _, [], h => by cases h
  | i :: is, x :: xs, h => by
    cases x with
    | Name n pos =>
      obtain ⟨h1, h2⟩ := and2 h
      obtain ⟨h3, h4⟩ := and2 h2
      obtain ⟨q1, q2, q3⟩ := tgs_ok O h4
      have hs : assignEach (.Name n pos :: xs) X.env = (false, assign (.Name n pos) X.env) :: assignEach xs X.env := rfl
      refine ⟨PGs.imp (pgs_cons (tgName O h1 h3) q1 rfl) fun _ _ _ _ q => gCons_of q, by rw [hs, List.length_cons, List.length_cons, q2], ?_⟩
      rw [hs, List.findIdx?_cons, q3] <;> rfl
    | _ => cases h
theorem tg_ok (O : OX Γ C k own sc X) {tg : Tg} {x : Expr} (h : tgB Γ own tg x = true) : PG X x (tG X.K tg) := by
  cases tg with
  | nm i =>
    cases x with
    | Name n pos =>
      obtain ⟨h1, h2⟩ := and2 h
      exact PG.imp (tgName O h1 h2) fun _ _ _ _ q => gName_of q
    | _ => cases h
  | tp is =>
    cases x with
    | Tuple xs j pos =>
      obtain ⟨q1, q2, q3⟩ := tgs_ok O (show tgsB Γ own is xs = true from h)
      exact PG.imp (pg_tup O.calm q1 q2 q3) fun _ _ _ _ q => gTup_of q
    | _ => cases h

/-! ### what is walked -/
theorem pi_seq {tg l : Expr} {f : EV → Option (List PyData × EV)} {g : EV → Option (PyData × EV)} (hl : PE X l (tP X.K g)) (hf : ∀ ρ xs ρ', f ρ = some (xs, ρ') → ∃ x, xs = [x] ∧ g ρ = some (x, ρ')) : PI X tg l (tI X.K .seq f) := by
  have U : PI X tg l (fun σ H R => tP X.K g σ H fun x H1 => (∃ a, x = .ref a ∧ (∃ xs, SqL X.K H1 a xs) ∧ R (Itl X.K a) H1) ∨ ∃ a, x = .ref a ∧ (∃ xs, SqT X.K H1 a xs) ∧ R (Itt X.K a) H1) := by
    refine ⟨fun pins s σ H R I h => ?_⟩
    refine thn (hl.run pins s σ H _ I h) fun v s1 ⟨x, H1, I1, r1, q1⟩ => ?_
    rcases q1 with ⟨a, e, ⟨xs, hq⟩, q⟩ | ⟨a, e, ⟨xs, hq⟩, q⟩
    · subst e
      cases r1
      obtain ⟨its, rv, p, hz⟩ := I1.list hq
      refine wpAny_pyIter_list p.isList ?_
      refine ⟨s1.heap.objs.size, [s1.heap.objs.size], _, _, H1, rfl, I1.kept (t' := s1.toks) fun b o e => Heap.get?_push_of_some _ e, turn_list a _, ⟨_, Heap.get?_push_size _ rfl, rfl, rfl⟩, fun b hb => ?_, q⟩
      have e : b = s1.heap.objs.size := by simpa using hb
      subst e
      exact I1.fpOk (Nat.le_refl _) (I1.hok.fresh (Nat.le_refl _))
    · subst e
      cases r1
      obtain ⟨its, rv, p, hz⟩ := I1.tuple hq
      refine wpAny_pyIter_tuple (show s1.heap.IsTuple a its.toArray from p) ?_
      refine ⟨s1.heap.objs.size, [s1.heap.objs.size], _, _, H1, rfl, I1.kept (t' := s1.toks) fun b o e => Heap.get?_push_of_some _ e, turn_tuple a _, ⟨_, Heap.get?_push_size _ rfl, rfl, rfl⟩, fun b hb => ?_, q⟩
      have e : b = s1.heap.objs.size := by simpa using hb
      subst e
      exact I1.fpOk (Nat.le_refl _) (I1.hok.fresh (Nat.le_refl _))
  refine ⟨fun pins s σ H R I h => U.run pins s σ H R I ?_⟩
  obtain ⟨Z, ρ, xs, ρ', items, R1, e1, e2, kk⟩ := h
  obtain ⟨x, rfl, e3⟩ := hf _ _ _ e1
  refine ⟨Z, ρ, x, ρ', R1, e3, fun v H' Z' A r => ?_⟩
  cases x with
  | list ys =>
    cases e2
    cases r with
    | lst hs ra => exact .inl ⟨_, rfl, ⟨_, hs.sq⟩, kk _ H' Z' A (.lst hs ra)⟩
  | tuple ys =>
    cases e2
    cases r with
    | tup hs ra => exact .inr ⟨_, rfl, ⟨_, hs⟩, kk _ H' Z' A (.tup hs ra)⟩
  | _ => cases e2
theorem PI.imp {tg l : Expr} {t t' : TI} (h : PI X tg l t) (w : ∀ σ H R, t' σ H R → t σ H R) : PI X tg l t' := ⟨fun pins s σ H R I q => h.run pins s σ H R I (w _ _ _ q)⟩
theorem RPs.two {K : PySem.W.Frag} {Z : Addr → Prop} {H : Hp} {vs : List V} {x y : PyData} (h : RPs K Z H vs [x, y]) : ∃ v w, vs = [v, w] ∧ RP K Z H v x ∧ RP K Z H w y := by
  cases h with | cons r t => cases t with | cons r2 t => cases t; exact ⟨_, _, rfl, r, r2⟩
def iterB (Γ : Gm) (own sc : Scope) (it : It) (src : E) (iter : Expr) : Bool := match it with
  | .seq => (chk Γ src).l own sc [iter] && plainE iter
  | _ => (match iter with
    | .Call (.Name n _) ys [] _ => glB sc n && (decide (n = ("range" : Str)) && ((chk Γ src).l own sc ys && (match it with | .rng1 => decide (ys.length = 1) | _ => decide (ys.length = 2))))
    | _ => false)
theorem one_len {α : Type} {ys : List α} (h : ys.length = 1) : ∃ y, ys = [y] := by
  match ys, h with | [y], _ => exact ⟨y, rfl⟩
theorem two_len {α : Type} {ys : List α} (h : ys.length = 2) : ∃ y z, ys = [y, z] := by
  match ys, h with | [y, z], _ => exact ⟨y, z, rfl⟩
theorem iter_ok (O : OX Γ C k own sc X) {tg : Expr} {it : It} {src : E} {iter : Expr} (hs : SX Γ C k src) (hp : ∀ a b, src = .cons a b → SX Γ C k a) (h : iterB Γ own sc it src iter = true) : PI X tg iter (tI X.K it (ev C Γ.G src).ps) := by
  have rng : ∀ (n : Str) (np : Pos) (ys : List Expr) (pos : Pos), iter = .Call (.Name n np) ys [] pos → glB sc n = true → n = ("range" : Str) → (chk Γ src).l own sc ys = true → (it = .rng1 ∧ ys.length = 1) ∨ (it = .rng2 ∧ ys.length = 2) → PI X tg iter (tI X.K it (ev C Γ.G src).ps) := by
    intro n np ys pos e g1 e1 h3 h5
    subst e e1
    have A := hs.l own sc _ h3 X O
    rcases h5 with ⟨rfl, hl⟩ | ⟨rfl, hl⟩
    · obtain ⟨y, rfl⟩ := one_len hl
      have py := A.pl
      rw [List.all_cons, Bool.and_eq_true] at py
      refine PI.imp (pi_range1 (O.gl g1) (O.blt _ (by decide +kernel)) A.ps (star_cons py.1)) fun σ H R q => ?_
      obtain ⟨Z, ρ, xs, ρ', items, R1, e1, e2, kk⟩ := q
      refine ⟨Z, ρ, xs, ρ', R1, e1, fun vs H' Z' A1 r => ?_⟩
      match xs, e2, r with
      | [.int b], e2, r =>
        obtain ⟨v, rfl, rv⟩ := r.one
        cases rv
        obtain ⟨ok, e3⟩ := ite_some e2
        simp only [Bool.and_eq_true, decide_eq_true_eq] at ok
        refine ⟨b, rfl, ok.1, ok.2, kk _ H' Z' A1 (.rng ?_)⟩
        rw [← e3]
        unfold rngL
        rw [Int.sub_zero]
    · obtain ⟨y, z, rfl⟩ := two_len hl
      have py := A.pl
      rw [List.all_cons, Bool.and_eq_true, List.all_cons, Bool.and_eq_true] at py
      have s2 : starEach [z] X.env = [(false, eval z X.env)] := star_cons py.2.1
      refine PI.imp (pi_range2 (O.gl g1) (O.blt _ (by decide +kernel)) A.ps (by rw [star_cons py.1, s2]) s2) fun σ H R q => ?_
      obtain ⟨Z, ρ, xs, ρ', items, R1, e1, e2, kk⟩ := q
      refine ⟨Z, ρ, xs, ρ', R1, e1, fun vs H' Z' A1 r => ?_⟩
      match xs, e2, r with
      | [.int a, .int b], e2, r =>
        obtain ⟨v, w, rfl, rv, rw'⟩ := r.two
        cases rv
        cases rw'
        obtain ⟨ok, e3⟩ := ite_some e2
        simp only [Bool.and_eq_true, decide_eq_true_eq] at ok
        refine ⟨a, b, rfl, ok, kk _ H' Z' A1 (.rng ?_)⟩
        rw [← e3]
        rfl
  cases it with
  | seq =>
    obtain ⟨h1, _⟩ := and2 h
    cases src with
    | cons a b =>
      obtain ⟨h2, h3⟩ := and2 h1
      have SA := hp a b rfl
      have hb : b = .nil := by
        cases b with
        | nil => rfl
        | cons _ _ => cases h3
        | _ => cases h3
      subst hb
      refine pi_seq (SA.ex own sc _ h2 X O).p fun ρ xs ρ' e => ?_
      obtain ⟨⟨x, ρ1⟩, e1, e2⟩ := Option.bind_eq_some_iff.mp (show ((ev C Γ.G a).p ρ).bind (fun (x, ρ1) => ((ev C Γ.G .nil).ps ρ1).map fun (xs, ρ2) => (x :: xs, ρ2)) = some (xs, ρ') from e)
      obtain ⟨⟨ys, ρ2⟩, e3, e4⟩ := Option.map_eq_some_iff.mp e2
      cases e3
      cases e4
      exact ⟨x, rfl, e1⟩
    | nil => cases h1
    | _ => cases h1
  | rng1 =>
    cases iter with
    | Call f ys kws pos =>
      cases f with
      | Name n np =>
        cases kws with
        | cons _ _ => cases h
        | nil =>
          obtain ⟨g1, h1⟩ := and2 h
          obtain ⟨e1, h2⟩ := and2 h1
          obtain ⟨h3, h4⟩ := and2 h2
          exact rng n np ys pos rfl g1 (of_decide_eq_true e1) h3 (.inl ⟨rfl, of_decide_eq_true h4⟩)
      | _ => cases h
    | _ => cases h
  | rng2 =>
    cases iter with
    | Call f ys kws pos =>
      cases f with
      | Name n np =>
        cases kws with
        | cons _ _ => cases h
        | nil =>
          obtain ⟨g1, h1⟩ := and2 h
          obtain ⟨e1, h2⟩ := and2 h1
          obtain ⟨h3, h4⟩ := and2 h2
          exact rng n np ys pos rfl g1 (of_decide_eq_true e1) h3 (.inr ⟨rfl, of_decide_eq_true h4⟩)
      | _ => cases h
    | _ => cases h
theorem folded_seq {iter : Expr} {env : Env} (h : plainE iter = true) (x : Value) : foldedSetIterable iter env x = pure x := by
  cases iter <;> first | rfl | (exact absurd h (by intro z; cases z))
theorem iter_plain {it : It} {src : E} {iter : Expr} (h : iterB Γ own sc it src iter = true) : plainE iter = true := by
  cases it with
  | seq => exact (and2 h).2
  | _ =>
    cases iter <;> first | rfl | (cases h; done)
end
end Pv

set_option Elab.async false
set_option linter.all false
set_option maxRecDepth 100000
set_option maxHeartbeats 8000000
/-! EvE3: comprehensions; every expression that the check takes is sound. -/
namespace Pv
open PySem PySem.Spec PyProof.Rows L2
section
variable {Γ : Gm} {C : Fns} {k : Nat} {own sc : Scope} {X : Cx}
theorem PTs.imp {is : List Expr} {t t' : TT} (h : PTs X is t) (w : ∀ σ H Q, t' σ H Q → t σ H Q) : PTs X is t' := ⟨fun pins s σ H Q I q => h.run pins s σ H Q I (w _ _ _ q)⟩
def lcB (Γ : Gm) (own sc : Scope) (tg : Tg) (it : It) (src ifs elt : E) (ow : List (Str × Nat)) (x : Expr) : Bool := match x with
  | .ListComp el [⟨t, iter, is, 0⟩] scope _ => blkC Γ.N sc scope ow && (subB tg.slots (ow.map (·.2)) && (tgB Γ scope tg t && ((match is with
        | [] => (chk Γ ifs).op scope (relS scope sc) none
        | [c] => (chk Γ ifs).op scope (relS scope sc) (some c)
        | _ => false) && ((chk Γ elt).e scope (relS scope sc) el && iterB Γ own sc it src iter))))
  | _ => false
structure LcP (X : Cx) (C : Fns) (G : List (Str × PyData)) (tg : Tg) (it : It) (src ifs elt : E) (ow : List (Str × Nat)) (el t iter : Expr) (is : List Expr) (scope : Scope) : Prop where
  pi : PI X t iter (tI X.K it (ev C G src).ps)
  ok : BlkOk X.N X.env.scope scope ow
  pg : ∀ (s : Shared) (H : Hp) (L : Addr) (cl : List (Str × Addr)) (fp : List Addr), PG (X.blk s H scope (compEnvC scope cl L X.env) fp) t (tG X.K tg)
  pt : ∀ (s : Shared) (H : Hp) (L : Addr) (cl : List (Str × Addr)) (fp : List Addr), PTs (X.blk s H scope (compEnvC scope cl L X.env) fp) is (tT X.K (tst1 (ev C G ifs)))
  pe : ∀ (s : Shared) (H : Hp) (L : Addr) (cl : List (Str × Addr)) (fp : List Addr), PE (X.blk s H scope (compEnvC scope cl L X.env) fp) el (tP X.K (ev C G elt).p)
  sub : ∀ i ∈ tg.slots, i ∈ ow.map (·.2)
  pl : plainE iter = true
theorem lc_parts {tg : Tg} {it : It} {src ifs elt : E} {ow : List (Str × Nat)} (hs : SX Γ C k src) (hp : ∀ a b, src = .cons a b → SX Γ C k a) (hi : SX Γ C k ifs) (he : SX Γ C k elt) (O : OX Γ C k own sc X) {x : Expr} (h : lcB Γ own sc tg it src ifs elt ow x = true) :
    ∃ el t iter is scope pos, x = .ListComp el [⟨t, iter, is, 0⟩] scope pos ∧ LcP X C Γ.G tg it src ifs elt ow el t iter is scope := by
  cases x with
  | ListComp el gs scope pos =>
    match gs, h with
    | [⟨t, iter, is, 0⟩], h =>
      obtain ⟨h1, h⟩ := and2 h
      obtain ⟨h2, h⟩ := and2 h
      obtain ⟨h3, h⟩ := and2 h
      obtain ⟨h4, h⟩ := and2 h
      obtain ⟨h5, h6⟩ := and2 h
      refine ⟨el, t, iter, is, scope, pos, rfl, iter_ok O hs hp h6, ?_, fun s H L cl fp => tg_ok (O.blk s H scope cl L fp) h3, fun s H L cl fp => ?_, fun s H L cl fp => (he.ex _ _ _ h5 _ (O.blk s H scope cl L fp)).p, fun i hi => ?_, iter_plain h6⟩
      · rw [O.N, O.scp]; exact blkOk_by h1
      · match is, h4 with
        | [], h4 =>
          have hn := hi.on _ _ h4
          refine PTs.imp pts_nil fun σ H Q q => ?_
          obtain ⟨Z, ρ, d, ρ', R, e, kk⟩ := q
          unfold tst1 at e
          rw [if_pos hn] at e
          cases e
          exact kk H Z (.refl R)
        | [c], h4 =>
          obtain ⟨q1, q2⟩ := hi.os _ _ _ h4
          refine PTs.imp (pts_one (hi.ex _ _ _ q1 _ (O.blk s H scope cl L fp)).t) fun σ H Q q => ?_
          obtain ⟨Z, ρ, d, ρ', R, e, kk⟩ := q
          unfold tst1 at e
          rw [if_neg (by rw [q2]; exact Bool.false_ne_true)] at e
          exact ⟨Z, ρ, d, ρ', R, e, kk⟩
      · unfold subB at h2
        exact List.contains_iff_mem.mp (List.all_eq_true.mp h2 i hi)
  | _ => cases h
theorem chk_lc {tg : Tg} {it : It} {src ifs elt : E} {ow : List (Str × Nat)} {x : Expr} (h : (chk Γ (.lc tg it src ifs elt ow)).e own sc x = true) : lcB Γ own sc tg it src ifs elt ow x = true := by
  obtain ⟨_, h2⟩ := and2 h
  cases it <;> exact h2
theorem sx_lc {tg : Tg} {it : It} {src ifs elt : E} {ow : List (Str × Nat)} (hs : SX Γ C k src) (hp : ∀ a b, src = .cons a b → SX Γ C k a) (hi : SX Γ C k ifs) (he : SX Γ C k elt) : SX Γ C k (.lc tg it src ifs elt ow) := .of rfl rfl fun own sc x pl h X O => by
  have h' : lcB Γ own sc tg it src ifs elt ow x = true := by cases it <;> exact h
  obtain ⟨el, t, iter, is, scope, pos, rfl, P⟩ := lc_parts hs hp hi he O h'
  exact .of (PE.imp (pe_lc O.calm (by rw [O.N]; exact O.nd) P.pi P.ok P.pg P.pt P.pe (folded_seq P.pl)) fun _ _ _ q => lcV_of P.sub q) (fun _ => rfl) (fun _ _ _ q => nomatch q)
/-- every term -/
theorem sx : ∀ e : E, SX Γ C k e
  | .con c => sx_con
  | .glob j => sx_glob
  | .var i => sx_var
  | .mov i => sx_mov
  | .bin o a b => sx_bin (sx a) (sx b)
  | .neg a => sx_neg (sx a)
  | .nt a => sx_nt (sx a)
  | .cmp o a b => sx_cmp (sx a) (sx b)
  | .chain o o' a b c => sx_chain (sx a) (sx b) (sx c)
  | .andE a b => sx_andE (sx a) (sx b)
  | .orE a b => sx_orE (sx a) (sx b)
  | .ife t a b => sx_ife (sx t) (sx a) (sx b)
  | .tup a => sx_tup (sx a)
  | .lst a => sx_lst (sx a)
  | .nil => sx_nil
  | .cons a b => sx_cons (sx a) (sx b)
  | .ix a b => sx_ix (sx a) (sx b)
  | .sl a b c => sx_sl (sx a) (sx b) (sx c)
  | .blt b a => sx_blt (sx a)
  | .lrg1 a => sx_lrg1 (sx a)
  | .lrg2 a b => sx_lrg2 (sx a) (sx b)
  | .isi T a => sx_isi (sx a)
  | .call f a => sx_call (sx a)
  | .meth m i a => sx_meth (sx a)
  | .lc tg it (.cons a b) ifs elt ow => sx_lc (sx_cons (sx a) (sx b)) (fun c d e => by cases e; exact sx a) (sx ifs) (sx elt)
  | .lc tg it .nil ifs elt ow => sx_lc sx_nil (fun c d e => nomatch e) (sx ifs) (sx elt)
  | .lc tg it (.con c) ifs elt ow => sx_lc (sx (.con c)) (fun c d e => nomatch e) (sx ifs) (sx elt)
  | .lc tg it (.glob c) ifs elt ow => sx_lc (sx (.glob c)) (fun c d e => nomatch e) (sx ifs) (sx elt)
  | .lc tg it (.var c) ifs elt ow => sx_lc (sx (.var c)) (fun c d e => nomatch e) (sx ifs) (sx elt)
  | .lc tg it (.mov c) ifs elt ow => sx_lc (sx (.mov c)) (fun c d e => nomatch e) (sx ifs) (sx elt)
  | .lc tg it (.bin o a b) ifs elt ow => sx_lc (sx (.bin o a b)) (fun c d e => nomatch e) (sx ifs) (sx elt)
  | .lc tg it (.neg a) ifs elt ow => sx_lc (sx (.neg a)) (fun c d e => nomatch e) (sx ifs) (sx elt)
  | .lc tg it (.nt a) ifs elt ow => sx_lc (sx (.nt a)) (fun c d e => nomatch e) (sx ifs) (sx elt)
  | .lc tg it (.cmp o a b) ifs elt ow => sx_lc (sx (.cmp o a b)) (fun c d e => nomatch e) (sx ifs) (sx elt)
  | .lc tg it (.chain o o' a b c) ifs elt ow => sx_lc (sx (.chain o o' a b c)) (fun c d e => nomatch e) (sx ifs) (sx elt)
  | .lc tg it (.andE a b) ifs elt ow => sx_lc (sx (.andE a b)) (fun c d e => nomatch e) (sx ifs) (sx elt)
  | .lc tg it (.orE a b) ifs elt ow => sx_lc (sx (.orE a b)) (fun c d e => nomatch e) (sx ifs) (sx elt)
  | .lc tg it (.ife t a b) ifs elt ow => sx_lc (sx (.ife t a b)) (fun c d e => nomatch e) (sx ifs) (sx elt)
  | .lc tg it (.tup a) ifs elt ow => sx_lc (sx (.tup a)) (fun c d e => nomatch e) (sx ifs) (sx elt)
  | .lc tg it (.lst a) ifs elt ow => sx_lc (sx (.lst a)) (fun c d e => nomatch e) (sx ifs) (sx elt)
  | .lc tg it (.ix a b) ifs elt ow => sx_lc (sx (.ix a b)) (fun c d e => nomatch e) (sx ifs) (sx elt)
  | .lc tg it (.sl a b c) ifs elt ow => sx_lc (sx (.sl a b c)) (fun c d e => nomatch e) (sx ifs) (sx elt)
  | .lc tg it (.blt b a) ifs elt ow => sx_lc (sx (.blt b a)) (fun c d e => nomatch e) (sx ifs) (sx elt)
  | .lc tg it (.lrg1 a) ifs elt ow => sx_lc (sx (.lrg1 a)) (fun c d e => nomatch e) (sx ifs) (sx elt)
  | .lc tg it (.lrg2 a b) ifs elt ow => sx_lc (sx (.lrg2 a b)) (fun c d e => nomatch e) (sx ifs) (sx elt)
  | .lc tg it (.isi T a) ifs elt ow => sx_lc (sx (.isi T a)) (fun c d e => nomatch e) (sx ifs) (sx elt)
  | .lc tg it (.call f a) ifs elt ow => sx_lc (sx (.call f a)) (fun c d e => nomatch e) (sx ifs) (sx elt)
  | .lc tg it (.meth m i a) ifs elt ow => sx_lc (sx (.meth m i a)) (fun c d e => nomatch e) (sx ifs) (sx elt)
  | .lc tg it (.lc a b c d e f) ifs elt ow => sx_lc (sx (.lc a b c d e f)) (fun c d e => nomatch e) (sx ifs) (sx elt)
end
end Pv

set_option Elab.async false
set_option linter.all false
set_option maxRecDepth 100000
set_option maxHeartbeats 8000000
/-! EvF: statements: what their readings are; the check; the soundness. -/
namespace Pv
open PySem PySem.Spec PyProof.Rows L2
structure AfterS (K : PySem.W.Frag) (lk : List Nat) (Z : Addr → Prop) (H : Hp) (σ : L2.St) (ρ : EV) (σ' : L2.St) (ρ' : EV) (Z' : Addr → Prop) (H' : Hp) : Prop where
  rs : RS K Z' H' σ' ρ'
  st : Step Z H (OW σ ρ) Z' H'
  sub : ∀ a, OW σ' ρ' a → OW σ ρ a ∨ H a = none
  lk : ∀ i ∈ lk, σ'[i]? = σ[i]?
def OwnNewS (H : Hp) (σ : L2.St) (ρ : EV) (σ' : L2.St) (ρ' : EV) (v : V) (d : D) : Prop := ∀ xs a, d = .own xs → v = .ref a → ¬ OW σ' ρ' a ∧ (OW σ ρ a ∨ H a = none)
def tEnd (K : PySem.W.Frag) (lk : List Nat) (D : Ends) (Z : Addr → Prop) (H : Hp) (σ : L2.St) (ρ : EV) : Out → Prop
  | .nx ρ' => ∀ σ' H' Z', AfterS K lk Z H σ ρ σ' ρ' Z' H' → D.nx σ' H'
  | .ret d ρ' => ∀ v σ' H' Z', AfterS K lk Z H σ ρ σ' ρ' Z' H' → RD K Z' H' v d → OwnNewS H σ ρ σ' ρ' v d → D.rt v H'
  | .bk ρ' => ∀ σ' H' Z', AfterS K lk Z H σ ρ σ' ρ' Z' H' → D.bk σ' H'
  | .ct ρ' => ∀ σ' H' Z', AfterS K lk Z H σ ρ σ' ρ' Z' H' → D.ct σ' H'
def tS (K : PySem.W.Frag) (lk : List Nat) (f : EV → Option Out) : TS := fun D σ H => ∃ Z ρ o, RS K Z H σ ρ ∧ f ρ = some o ∧ tEnd K lk D Z H σ ρ o
section
variable {K : PySem.W.Frag} {lk : List Nat} {σ σ1 σ2 : L2.St} {H H1 H2 : Hp} {Z Z1 Z2 : Addr → Prop} {ρ ρ1 ρ2 : EV} {D : Ends}
theorem After.s (a : After K Z H σ ρ ρ1 Z1 H1) : AfterS K lk Z H σ ρ σ ρ1 Z1 H1 := ⟨a.rs, a.st, fun b o => .inl (a.sub b o), fun _ _ => rfl⟩
theorem AfterS.refl (R : RS K Z H σ ρ) : AfterS K lk Z H σ ρ σ ρ Z H := (After.refl R).s
theorem AfterS.trans (a : AfterS K lk Z H σ ρ σ1 ρ1 Z1 H1) (b : AfterS K lk Z1 H1 σ1 ρ1 σ2 ρ2 Z2 H2) : AfterS K lk Z H σ ρ σ2 ρ2 Z2 H2 where
  rs := b.rs
  st := a.st.trans b.st a.sub
  sub := fun x o => by
    rcases b.sub x o with q | q
    · exact a.sub x q
    · by_cases ho : OW σ ρ x
      · exact .inl ho
      · cases e : H x with
        | none => exact .inr rfl
        | some u => rw [a.st.keep x u e ho] at q; cases q
  lk := fun i hi => (b.lk i hi).trans (a.lk i hi)
theorem OwnNewS.trans {σ2 : L2.St} {v : V} {d : Pv.D} (a : AfterS K lk Z H σ ρ σ1 ρ1 Z1 H1) (n : OwnNewS H1 σ1 ρ1 σ2 ρ2 v d) : OwnNewS H σ ρ σ2 ρ2 v d := fun xs x e1 e2 => by
  obtain ⟨h1, h2⟩ := n xs x e1 e2
  refine ⟨h1, ?_⟩
  rcases h2 with q | q
  · exact a.sub x q
  · by_cases ho : OW σ ρ x
    · exact .inl ho
    · cases e : H x with
      | none => exact .inr rfl
      | some u => rw [a.st.keep x u e ho] at q; cases q
/-- a slot stored behind an expression -/
theorem AfterS.store {i : Nat} {v : V} {d : Pv.D} (a : After K Z H σ ρ ρ1 Z1 H1) (r : RD K Z1 H1 v d) (n : OwnNew H σ ρ ρ1 v d) (hi : i ∉ lk) : AfterS K lk Z H σ ρ (σ.set i (some v)) (ρ1.set i (some d)) Z1 H1 where
  rs := a.rs.store r fun xs b e1 e2 => (n xs b e1 e2).1
  st := a.st
  sub := fun b o => by
    rcases OW.store o with q | ⟨xs, e1, e2⟩
    · exact .inl (a.sub b q)
    · exact (n xs b e1 e2).2
  lk := fun j hj => List.getElem?_set_ne fun e => hi (by subst e; exact hj)
/-- the same outcome, from a later state -/
theorem tS_from {g : EV → Option Out} {o : Out} (a : AfterS K lk Z H σ ρ σ1 ρ1 Z1 H1) (hg : g ρ1 = some o) (k : tEnd K lk D Z H σ ρ o) : tS K lk g D σ1 H1 := by
  refine ⟨Z1, ρ1, o, a.rs, hg, ?_⟩
  cases o with
  | nx ρ' => exact fun σ' H' Z' b => k σ' H' Z' (a.trans b)
  | ret d ρ' => exact fun v σ' H' Z' b r n => k v σ' H' Z' (a.trans b) r (n.trans a)
  | bk ρ' => exact fun σ' H' Z' b => k σ' H' Z' (a.trans b)
  | ct ρ' => exact fun σ' H' Z' b => k σ' H' Z' (a.trans b)
theorem set_of {i : Nat} {f : EV → Option (Pv.D × EV)} (hi : i ∉ lk) (h : tS K lk (fun ρ => (f ρ).map fun (d, ρ1) => .nx (ρ1.set i (some d))) D σ H) : tV K f σ H fun x H1 => D.nx (σ.set i (some x)) H1 := by
  obtain ⟨Z, ρ, o, R, e, k⟩ := h
  obtain ⟨⟨d, ρ1⟩, e1, e2⟩ := Option.map_eq_some_iff.mp e
  cases e2
  exact ⟨Z, ρ, d, ρ1, R, e1, fun v H' Z' A r n => k _ H' Z' (.store A r n hi)⟩
theorem ret_of {f : EV → Option (Pv.D × EV)} (h : tS K lk (fun ρ => (f ρ).map fun (d, ρ1) => .ret d ρ1) D σ H) : tRet (tV K f) D σ H := by
  obtain ⟨Z, ρ, o, R, e, k⟩ := h
  obtain ⟨⟨d, ρ1⟩, e1, e2⟩ := Option.map_eq_some_iff.mp e
  cases e2
  exact ⟨Z, ρ, d, ρ1, R, e1, fun v H' Z' A r n => k v σ H' Z' A.s r n⟩
theorem exp_of {f : EV → Option (Pv.D × EV)} (h : tS K lk (fun ρ => (f ρ).map fun (_, ρ1) => .nx ρ1) D σ H) : tDrop (tV K f) D σ H := by
  obtain ⟨Z, ρ, o, R, e, k⟩ := h
  obtain ⟨⟨d, ρ1⟩, e1, e2⟩ := Option.map_eq_some_iff.mp e
  cases e2
  exact ⟨Z, ρ, d, ρ1, R, e1, fun v H' Z' A r n => k σ H' Z' A.s⟩
theorem retN_of (h : tS K lk (fun ρ => some (.ret (.p .none) ρ)) D σ H) : tRetN D σ H := by
  obtain ⟨Z, ρ, o, R, e, k⟩ := h
  cases e
  exact k .non σ H Z (.refl R) .non fun xs a e => nomatch e
theorem nx_of (h : tS K lk (fun ρ => some (.nx ρ)) D σ H) : tNext D σ H := by
  obtain ⟨Z, ρ, o, R, e, k⟩ := h
  cases e
  exact k σ H Z (.refl R)
theorem bk_of (h : tS K lk (fun ρ => some (.bk ρ)) D σ H) : tBreak D σ H := by
  obtain ⟨Z, ρ, o, R, e, k⟩ := h
  cases e
  exact k σ H Z (.refl R)
theorem ct_of (h : tS K lk (fun ρ => some (.ct ρ)) D σ H) : tCont D σ H := by
  obtain ⟨Z, ρ, o, R, e, k⟩ := h
  cases e
  exact k σ H Z (.refl R)
theorem ite_of {t : EV → Option (Bool × EV)} {a b : EV → Option Out} (h : tS K lk (fun ρ => (t ρ).bind fun (k, ρ1) => if k = true then a ρ1 else b ρ1) D σ H) : tIfS (tT K t) (tS K lk a) (tS K lk b) D σ H := by
  obtain ⟨Z, ρ, o, R, e, k⟩ := h
  obtain ⟨⟨c, ρ1⟩, e1, e⟩ := Option.bind_eq_some_iff.mp e
  refine ⟨Z, ρ, c, ρ1, R, e1, fun H1 Z1 A => ?_⟩
  cases c with
  | true => exact iteT (tS_from (g := a) A.s ((if_pos rfl).symm.trans e) k)
  | false => exact iteF (tS_from (g := b) A.s e k)
theorem seq_of {a b : EV → Option Out} (h : tS K lk (fun ρ => (a ρ).bind fun o => match o with
    | .nx ρ1 => b ρ1
    | o => some o) D σ H) : tSeq (tS K lk a) (tS K lk b) D σ H := by
  obtain ⟨Z, ρ, o, R, e, k⟩ := h
  obtain ⟨o1, e1, e⟩ := Option.bind_eq_some_iff.mp e
  refine ⟨Z, ρ, o1, R, e1, ?_⟩
  cases o1 with
  | nx ρ1 => exact fun σ' H' Z' A => tS_from (g := b) A e k
  | ret d ρ1 => cases e; exact k
  | bk ρ1 => cases e; exact k
  | ct ρ1 => cases e; exact k
theorem unp_of {is : List Nat} {f : EV → Option (Pv.D × EV)} (hi : ∀ i ∈ is, i ∉ lk) (h : tS K lk (fun ρ => (f ρ).bind fun (d, ρ1) => match d with
    | .p (.tuple xs) => (asgNames ρ1 is xs).map .nx
    | _ => none) D σ H) : tAsg (tV K f) (tG K (.tp is)) D σ H := by
  obtain ⟨Z, ρ, o, R, e, k⟩ := h
  obtain ⟨⟨d, ρ1⟩, e1, e⟩ := Option.bind_eq_some_iff.mp e
  cases d with
  | own xs => cases e
  | p x =>
    cases x with
    | tuple xs =>
      obtain ⟨ρ2, e2, e3⟩ := Option.map_eq_some_iff.mp (show (asgNames ρ1 is xs).map Out.nx = some o from e)
      subst e3
      exact ⟨Z, ρ, .p (.tuple xs), ρ1, R, e1, fun v H' Z' A r n => ⟨Z', ρ1, .tuple xs, ρ2, A.rs, r, e2, fun σ' R' sub same => k σ' H' Z' ⟨R', A.st, fun a q => .inl (A.sub a (sub a q)), fun i hl => same i fun q => hi i q hl⟩⟩⟩
    | _ => cases e
theorem par_of {i j : Nat} {f g : EV → Option (Pv.D × EV)} (hi : i ∉ lk) (hj : j ∉ lk) (h : tS K lk (fun ρ => (f ρ).bind fun (d, ρ1) => (g ρ1).map fun (e, ρ2) => .nx ((ρ2.set i (some d)).set j (some e))) D σ H) :
    tPar i j (tCons (tV K f) (tCons (tV K g) tNil)) D σ H := by
  obtain ⟨Z, ρ, o, R, e, k⟩ := h
  obtain ⟨⟨d, ρ1⟩, e1, e⟩ := Option.bind_eq_some_iff.mp e
  obtain ⟨⟨d2, ρ2⟩, e2, e3⟩ := Option.map_eq_some_iff.mp e
  cases e3
  refine ⟨Z, ρ, d, ρ1, R, e1, fun v1 H1 Z1 A1 r1 n1 => ⟨Z1, ρ1, d2, ρ2, A1.rs, e2, fun v2 H2 Z2 A2 r2 n2 => ⟨v1, v2, rfl, ?_⟩⟩⟩
  have r1' : RD K Z2 H2 v1 d := r1.step A2.st (fun b q => OW.lst A1.rs q) fun xs a q1 q2 => (n1 xs a q1 q2).1
  have n1' : OwnNew H σ ρ ρ2 v1 d := fun xs a q1 q2 => ⟨fun q => (n1 xs a q1 q2).1 (A2.sub a q), (n1 xs a q1 q2).2⟩
  have S1 : AfterS K lk Z H σ ρ (σ.set i (some v1)) (ρ2.set i (some d)) Z2 H2 := .store (A1.trans A2) r1' n1' hi
  have n2' := OwnNew.trans A1 n2
  have ne : ∀ xs ys a, d = .own xs → v1 = .ref a → d2 = .own ys → v2 = .ref a → False := fun xs ys a q1 q2 q3 q4 => by
    obtain ⟨_, h2⟩ := n2 ys a q3 q4
    rcases h2 with q | q
    · exact (n1 xs a q1 q2).1 q
    · subst q1 q2
      obtain ⟨b, vs, e4, e5, _⟩ := r1
      cases e4
      rw [e5] at q; cases q
  refine k _ H2 Z2 ⟨S1.rs.store r2 fun ys a q3 q4 q => ?_, S1.st, fun a q => ?_, fun m hm => ?_⟩
  · rcases OW.store q with q | ⟨xs, q1, q2⟩
    · exact (n2 ys a q3 q4).1 q
    · exact ne xs ys a q1 q2 q3 q4
  · rcases OW.store q with q | ⟨ys, q3, q4⟩
    · exact S1.sub a q
    · exact (n2' ys a q3 q4).2
  · rw [List.getElem?_set_ne fun e => hj (by subst e; exact hm)]
    exact S1.lk m hm
end
theorem stx_of {X : Cx} {lk : List Nat} {D : Ends} {σ : L2.St} {H : Hp} {i : Nat} {f g : EV → Option (PyData × EV)} (h : tS X.K lk (fun ρ => if isOwn ρ i = true then (f ρ).bind fun (x, ρ1) => if isOwn ρ1 i = true then (g ρ1).bind fun (k, ρ2) => match ρ2[i]? with
    | some (some (.own xs)) => (setItemS xs k x).map fun ys => .nx (ρ2.set i (some (.own ys)))
    | _ => none
    else none else none) D σ H) : tAsg (tP X.K f) (gSub (tVar i) (tP X.K g) rSetL) D σ H := by
  obtain ⟨Z, ρ, o, R, e, k⟩ := h
  dsimp only at e
  by_cases h0 : isOwn ρ i = true
  · rw [if_pos h0] at e
    obtain ⟨⟨x, ρ1⟩, e1, e⟩ := Option.bind_eq_some_iff.mp e
    dsimp only at e
    by_cases h1 : isOwn ρ1 i = true
    · rw [if_pos h1] at e
      obtain ⟨⟨kk, ρ2⟩, e2, e⟩ := Option.bind_eq_some_iff.mp e
      dsimp only at e
      refine ⟨Z, ρ, x, ρ1, R, e1, fun vx H1 Z1 A1 rx => ?_⟩
      obtain ⟨zs, g0⟩ := isOwn_iff h1
      obtain ⟨v, s0, a0, w0, rfl, q1, q2, q3⟩ := A1.rs.get i _ g0
      refine ⟨.ref a0, s0, Z1, ρ1, kk, ρ2, A1.rs, e2, fun vk H2 Z2 A2 rk => ?_⟩
      cases hi : ρ2[i]? with
      | none => rw [hi] at e; cases e
      | some od =>
        cases od with
        | none => rw [hi] at e; cases e
        | some dd =>
          cases dd with
          | p _ => rw [hi] at e; cases e
          | own xs =>
            rw [hi] at e
            obtain ⟨ys, e3, e4⟩ := Option.map_eq_some_iff.mp (show (setItemS xs kk x).map (fun ys => Out.nx (ρ2.set i (some (.own ys)))) = some o from e)
            subst e4
            obtain ⟨v, s1, a1, w1, rfl, p1, p2, p3⟩ := A2.rs.get i _ hi
            rw [s0] at s1; cases s1
            refine set_D p1 p3 rk (A2.rp A1.rs rx) e3 fun ws' rw' => ?_
            exact k σ _ Z2 ((A1.trans A2).trans (A2.rs.mut hi s0 p1 p2 rw')).s
    · rw [if_neg h1] at e; cases e
  · rw [if_neg h0] at e; cases e
theorem aug_of {X : Cx} {lk : List Nat} {D : Ends} {σ : L2.St} {H : Hp} {i : Nat} {o : Bop} {f : EV → Option (PyData × EV)} {ti : TIp} (hi : i ∉ lk) (ho : (o = .add ∧ ti = ipI fun i j => i + j) ∨ (o = .sub ∧ ti = ipI fun i j => i - j)) (h : tS X.K lk (fun ρ => match ρ[i]? with
    | some (some (.p x)) => (f ρ).bind fun (y, ρ1) => (augS o x y).map fun z => .nx (ρ1.set i (some (.p z)))
    | _ => none) D σ H) : tAug i (tP X.K f) ti D σ H := by
  obtain ⟨Z, ρ, oo, R, e, k⟩ := h
  dsimp only at e
  cases g1 : ρ[i]? with
  | none => rw [g1] at e; cases e
  | some od =>
    cases od with
    | none => rw [g1] at e; cases e
    | some d =>
      cases d with
      | own _ => rw [g1] at e; cases e
      | p x =>
        rw [g1] at e
        obtain ⟨⟨y, ρ1⟩, e1, e⟩ := Option.bind_eq_some_iff.mp e
        obtain ⟨z, e2, e3⟩ := Option.map_eq_some_iff.mp e
        subst e3
        obtain ⟨v, s0, r0⟩ := R.get i _ g1
        rcases ho with ⟨rfl, rfl⟩ | ⟨rfl, rfl⟩
        · cases x with
          | int a =>
            cases y with
            | int b =>
              cases e2
              cases r0
              refine ⟨.int a, s0, Z, ρ, .int b, ρ1, R, e1, fun vy H1 Z1 A1 ry => ?_⟩
              cases ry
              exact ⟨a, b, rfl, rfl, k _ H1 Z1 (.store (d := .p (.int _)) A1 (.int _) .p hi)⟩
            | _ => cases e2
          | _ => cases e2
        · cases x with
          | int a =>
            cases y with
            | int b =>
              cases e2
              cases r0
              refine ⟨.int a, s0, Z, ρ, .int b, ρ1, R, e1, fun vy H1 Z1 A1 ry => ?_⟩
              cases ry
              exact ⟨a, b, rfl, rfl, k _ H1 Z1 (.store (d := .p (.int _)) A1 (.int _) .p hi)⟩
            | _ => cases e2
          | _ => cases e2
/-! ### loops -/
section
variable {K : PySem.W.Frag} {lk : List Nat} {σ : L2.St} {H : Hp} {D : Ends}
theorem for_of {tg : Tg} {it : It} {src : EV → Option (List PyData × EV)} {body : EV → Option Out} (ht : ∀ i ∈ tg.slots, i ∉ lk)
    (h : tS K lk (fun ρ => (src ρ).bind fun (xs, ρ1) => (itemsOf it xs).bind fun items => forL (fun ρ x => asgT ρ tg x) body items ρ1) D σ H) : tFor (tI K it src) (tG K tg) (tS K lk body) D σ H := by
  obtain ⟨Z, ρ, o, R, e, k⟩ := h
  obtain ⟨⟨xs, ρ1⟩, e1, e⟩ := Option.bind_eq_some_iff.mp e
  obtain ⟨items, e2, e⟩ := Option.bind_eq_some_iff.mp e
  refine ⟨Z, ρ, xs, ρ1, items, R, e1, e2, fun J H1 Z1 A1 w => ?_⟩
  let Inv : Nat → L2.St → Hp → Prop := fun i σ' H' => ∃ (Z' : Addr → Prop) (ρi : EV), AfterS K lk Z1 H1 σ ρ1 σ' ρi Z' H' ∧ forL (fun ρ x => asgT ρ tg x) body (items.drop i) ρi = some o
  refine ⟨fun i m σ' H' => m = items.length - i ∧ i ≤ items.length ∧ Inv i σ' H', ⟨items.length, by simp, Nat.zero_le _, Z1, ρ1, .refl A1.rs, by rw [List.drop_zero]; exact e⟩, ?_⟩
  rintro i m σ' H' ⟨rfl, hi, Z', ρi, A, el⟩
  have w2 := w.step A.st (fun a q => OW.lst A1.rs q)
  by_cases hlt : i < items.length
  · refine .inr ⟨w2.go hlt, Inv (i + 1), fun σ2 H2 p' => ⟨items.length - (i + 1), by omega, rfl, hlt, p'⟩, fun x H2 y => ?_⟩
    have hx : items[i]? = some items[i] := by simp [hlt]
    obtain ⟨rfl, rx⟩ := w2.yld hx y
    rw [List.drop_eq_getElem_cons hlt] at el
    obtain ⟨ρa, g1, el⟩ := Option.bind_eq_some_iff.mp el
    obtain ⟨ob, g2, el⟩ := Option.bind_eq_some_iff.mp el
    refine ⟨Z', ρi, items[i], ρa, A.rs, rx, g1, fun σ2 Ra suba same => ?_⟩
    have B : AfterS K lk Z1 H1 σ ρ1 σ2 ρa Z' H2 := A.trans ⟨Ra, Step.refl, fun a q => .inl (suba a q), fun j hj => same j fun q => ht j q hj⟩
    refine ⟨Z', ρa, ob, Ra, g2, ?_⟩
    cases ob with
    | nx ρ2 => exact fun σ3 H3 Z3 A3 => ⟨Z3, ρ2, B.trans A3, el⟩
    | ct ρ2 => exact fun σ3 H3 Z3 A3 => ⟨Z3, ρ2, B.trans A3, el⟩
    | bk ρ2 =>
      cases el
      exact fun σ3 H3 Z3 A3 => k σ3 H3 Z3 ((A1.s.trans B).trans A3)
    | ret d ρ2 =>
      cases el
      exact fun v σ3 H3 Z3 A3 r n => k v σ3 H3 Z3 ((A1.s.trans B).trans A3) r (n.trans (A1.s.trans B))
  · have hi' : i = items.length := by omega
    subst hi'
    rw [List.drop_length] at el
    cases el
    exact .inl ⟨w2.stop (Nat.le_refl _), k σ' H' Z' (A1.s.trans A)⟩
theorem whl_of {n : Nat} {t : EV → Option (Bool × EV)} {body : EV → Option Out} (h : tS K lk (fun ρ => whlL t body n ρ) D σ H) : tWhile (tT K t) (tS K lk body) D σ H := by
  obtain ⟨Z, ρ, o, R, e, k⟩ := h
  refine ⟨fun m σ' H' => ∃ (Z' : Addr → Prop) (ρi : EV), AfterS K lk Z H σ ρ σ' ρi Z' H' ∧ whlL t body m ρi = some o, ⟨n, Z, ρ, .refl R, e⟩, ?_⟩
  rintro m σ' H' ⟨Z', ρi, A, el⟩
  cases m with
  | zero => cases el
  | succ m =>
    obtain ⟨⟨c, ρa⟩, g1, el⟩ := Option.bind_eq_some_iff.mp el
    refine ⟨Z', ρi, c, ρa, A.rs, g1, fun H1 Z1 A1 => ?_⟩
    have B : AfterS K lk Z H σ ρ σ' ρa Z1 H1 := A.trans A1.s
    cases c with
    | false =>
      cases el
      exact iteF (k σ' H1 Z1 B)
    | true =>
      have el' := (if_pos rfl).symm.trans el
      obtain ⟨ob, g2, el⟩ := Option.bind_eq_some_iff.mp el'
      refine iteT ⟨fun σ2 H2 => ∃ (Z2 : Addr → Prop) (ρ2 : EV), AfterS K lk Z H σ ρ σ2 ρ2 Z2 H2 ∧ whlL t body m ρ2 = some o, fun σ2 H2 q => ⟨m, Nat.lt_succ_self m, q⟩, Z1, ρa, ob, A1.rs, g2, ?_⟩
      cases ob with
      | nx ρ2 => exact fun σ3 H3 Z3 A3 => ⟨Z3, ρ2, B.trans A3, el⟩
      | ct ρ2 => exact fun σ3 H3 Z3 A3 => ⟨Z3, ρ2, B.trans A3, el⟩
      | bk ρ2 =>
        cases el
        exact fun σ3 H3 Z3 A3 => k σ3 H3 Z3 (B.trans A3)
      | ret d ρ2 =>
        cases el
        exact fun v σ3 H3 Z3 A3 r n => k v σ3 H3 Z3 (B.trans A3) r (n.trans B)
end
end Pv

set_option Elab.async false
set_option linter.all false
set_option maxRecDepth 100000
set_option maxHeartbeats 8000000
/-! EvG: a statement of the text is a term of the syntax (chkS); the soundness of statements and of defs. -/
namespace Pv
open PySem PySem.Spec PyProof.Rows L2
structure CS where
  s : Stmt → Bool
  b : List Stmt → Bool
def cs (f : Stmt → Bool) : CS := ⟨f, fun _ => false⟩
def ixB (Γ : Gm) (i : Nat) (x : Str) : Bool := match Γ.N[i]? with | some y => decide (y = x) | none => false
def localB (sc : Scope) (x : Str) : Bool := match sc.names.lookup x with | some .local => true | _ => false
def notTup : Expr → Bool
  | .Tuple _ _ _ => false
  | _ => true
def notLc : Expr → Bool
  | .ListComp _ _ _ _ => false
  | _ => true
/-- does the store of [..] to the name go with the comprehension's end -/
def swB (sc : Scope) (n : Str) (p : Pos) : Expr → Bool
  | .ListComp _ _ scope vp => localB sc n && ((p.line == vp.line) && !(scope.names.any fun (m, k) => m == n && (k == .local || k == .cell)))
  | _ => false
def setB (Γ : Gm) (sc : Scope) (e : E) (v : Expr) : Bool := if notLc v = true then (chk Γ e).e sc sc v else match e with
  | .lc tg it src ifs elt ow => lcB Γ sc sc tg it src ifs elt ow v
  | _ => false
def okAug : Bop → Bool
  | .add => true
  | .sub => true
  | _ => false
def chkS (Γ : Gm) (sc : Scope) : S → CS
  | .skip => cs fun x => match x with | .Pass _ => true | .Expr (.Constant (.str _) _ _) _ => true | _ => false
  | .set i e => cs fun x => match x with | .Assign [.Name n p] v _ => ixB Γ i n && (locB sc n && (!Γ.lk.contains i && ((notLc v || (swB sc n p v || !localB sc n)) && setB Γ sc e v))) | _ => false
  | .unp is e => cs fun x => match x with | .Assign [.Tuple ts k tp] v _ => tgsB Γ sc is ts && (is.all (fun i => !Γ.lk.contains i) && (notTup v && (chk Γ e).e sc sc v)) | _ => false
  | .par i j a b => cs fun x => match x with
    | .Assign [.Tuple [.Name n p, .Name m q] _ _] (.Tuple [v, w] _ _) _ => ixB Γ i n && (ixB Γ j m && (localB sc n && (localB sc m && ((p.line == q.line) && (decide (i ≠ j) && (!Γ.lk.contains i && (!Γ.lk.contains j && (decide (n ≠ m) &&
        (!([v, w].all (foldedForSure 8)) && (!([v, w].all (constantsAlone 8)) && ((chk Γ a).e sc sc v && (chk Γ b).e sc sc w)))))))))))
    | _ => false
  | .stx i ie e => cs fun x => match x with | .Assign [.Subscript (.Name n _) ix _] v _ => nmB Γ sc i n && ((chk Γ ie).e sc sc ix && (chk Γ e).e sc sc v) | _ => false
  | .aug i o e => cs fun x => match x with | .AugAssign (.Name n _) op v _ => ixB Γ i n && (locB sc n && (!Γ.lk.contains i && (decide (op = o.op) && (okAug o && (chk Γ e).e sc sc v)))) | _ => false
  | .exp e => cs fun x => match x with | .Expr v _ => notLc v && (chk Γ e).e sc sc v | _ => false
  | .ret e => cs fun x => match x with | .Return (some v) _ => (chk Γ e).e sc sc v | _ => false
  | .retN => cs fun x => match x with | .Return none _ => true | _ => false
  | .ite t a b => cs fun x => match x with | .If y u v _ => (chk Γ t).e sc sc y && ((chkS Γ sc a).b u && (chkS Γ sc b).b v) | _ => false
  | .for_ tg it src body => cs fun x => match x with | .For t iter bd [] _ => tgB Γ sc tg t && (tg.slots.all (fun i => !Γ.lk.contains i) && (iterB Γ sc sc it src iter && (chkS Γ sc body).b bd)) | _ => false
  | .whl _ t body => cs fun x => match x with | .While y bd [] _ => (chk Γ t).e sc sc y && (chkS Γ sc body).b bd | _ => false
  | .brk => cs fun x => match x with | .Break _ => true | _ => false
  | .cnt => cs fun x => match x with | .Continue _ => true | _ => false
  | .done => ⟨fun _ => false, fun xs => xs.isEmpty⟩
  | .seq a b => ⟨fun _ => false, fun xs => match xs with | x :: r => (chkS Γ sc a).s x && (chkS Γ sc b).b r | [] => false⟩
section
variable {Γ : Gm} {C : Fns} {k : Nat} {sc : Scope} {X : Cx}
theorem not_lk {i : Nat} (h : (!Γ.lk.contains i) = true) : i ∉ Γ.lk := fun q => by
  rw [List.contains_iff_mem.mpr q] at h
  cases h
theorem alls_lk {is : List Nat} (h : is.all (fun i => !Γ.lk.contains i) = true) : ∀ i ∈ is, i ∉ Γ.lk := fun i hi => not_lk (List.all_eq_true.mp h i hi)
theorem ixB_ok {i : Nat} {x : Str} (h : ixB Γ i x = true) : Γ.N[i]? = some x := by
  unfold ixB at h
  cases e : Γ.N[i]? with
  | none => rw [e] at h; cases h
  | some y => rw [e] at h; rw [of_decide_eq_true h]
theorem localB_ok {x : Str} (h : localB sc x = true) : sc.names.lookup x = some .local := by
  unfold localB at h
  split at h
  · assumption
  · cases h
theorem bk_fn (O : OX Γ C k sc sc X) (hk : sc.kind = .function) : X.env.blockKind = .function := by
  unfold Env.blockKind
  rw [O.scp, hk]
  rfl
theorem sw_plain {e : Expr} {t : Option Expr} {l : Nat} {env : Env} (h : plainE e = true) (h2 : notLc e = true) : swapsWith e t l env = pure false := by
  cases e <;> first | rfl | exact absurd h Bool.false_ne_true | exact absurd h2 Bool.false_ne_true
theorem sw_some {e : Expr} {t : Expr} {l : Nat} {env : Env} (h : ∀ x p, t ≠ .Name x p) : swapsWith e (some t) l env = pure false := by
  cases e <;> first | rfl | (cases t <;> first | rfl | exact absurd rfl (h _ _))
theorem sw_sole {t v : Expr} {l : Nat} {env : Env} (h : ∀ x p, t ≠ .Name x p) : swapsWithSole [t] v l env = pure false := sw_some h
theorem sw_lc {elt : Expr} {gs : List Comprehension} {scope : Scope} {vp p : Pos} {n : Str} {l : Nat} (O : OX Γ C k sc sc X) (hk : sc.kind = .function) :
    swapsWith (.ListComp elt gs scope vp) (some (.Name n p)) l X.env = pure (swB sc n p (.ListComp elt gs scope vp)) := by
  have hb := bk_fn O hk
  have hl : (X.env.kindOf n == some .local) = localB sc n := by
    show (X.env.scope.names.lookup n == some .local) = _
    rw [O.scp]
    unfold localB
    cases sc.names.lookup n with
    | none => rfl
    | some a => cases a <;> rfl
  unfold swapsWith swB
  simp only [hb, hl, Expr.pos]
  rw [show (ScopeKind.function == ScopeKind.function) = true from rfl, Bool.true_and]
  generalize localB sc n = a
  generalize (p.line == vp.line) = b
  cases a <;> cases b <;> rfl
theorem stores_none {t v : Expr} {env : Env} (h : (∀ ts i p, t ≠ .Tuple ts i p) ∧ (∀ ts p, t ≠ .List ts p) ∨ notTup v = true) : swappedStores [t] v env = pure none := by
  rcases h with ⟨h1, h2⟩ | h
  · cases t <;> first | exact absurd rfl (h1 _ _ _) | exact absurd rfl (h2 _ _) | (cases v <;> rfl)
  · cases v <;> first | exact absurd h Bool.false_ne_true | (cases t <;> rfl)
def isStar : Expr → Bool
  | .Starred _ _ => true
  | _ => false
theorem star_no {v : Expr} (h : plainE v = true) : isStar v = false := by
  cases v <;> first | rfl | exact absurd h Bool.false_ne_true
theorem par_sw {n m : Str} {p q tp vp : Pos} {i j : Nat} {v w : Expr} (O : OX Γ C k sc sc X) (hk : sc.kind = .function) (h1 : localB sc n = true) (h2 : localB sc m = true) (h3 : (p.line == q.line) = true) (h4 : n ≠ m)
    (h5 : (!([v, w].all (foldedForSure 8))) = true) (h6 : (!([v, w].all (constantsAlone 8))) = true) (pv : plainE v = true) (pw : plainE w = true) :
    swappedStores [.Tuple [.Name n p, .Name m q] i tp] (.Tuple [v, w] j vp) X.env = pure (some [n, m]) := by
  have hb := bk_fn O hk
  have k1 : X.env.kindOf n = some .local := by show X.env.scope.names.lookup n = _; rw [O.scp]; exact localB_ok h1
  have k2 : X.env.kindOf m = some .local := by show X.env.scope.names.lookup m = _; rw [O.scp]; exact localB_ok h2
  have s1 : ([v, w].any fun | .Starred .. => true | _ => false) = false := by
    show (isStar v || (isStar w || false)) = false
    rw [star_no pv, star_no pw] <;> rfl
  have h3' : (q.line == p.line) = true := by
    have := eq_of_beq h3
    rw [this]; exact beq_self_eq_true _
  have h7 : ([v, w].all (foldedForSure 8)) = false := Bool.not_eq_true' _ ▸ h5
  have h8 : ([v, w].all (constantsAlone 8)) = false := Bool.not_eq_true' _ ▸ h6
  have hne : (m == n) = false := beq_eq_false_iff_ne.mpr fun e => h4 e.symm
  have ed : ([n, m] : List Str).eraseDups = [n, m] := by
    simp [List.eraseDups_cons, hne]
  have q1 : (X.env.kindOf n == some .local && p.line == p.line) = true := by rw [k1]; simp
  have q2 : (X.env.kindOf m == some .local && q.line == p.line) = true := by rw [k2, h3']; rfl
  have fm : ([Expr.Name n p, Expr.Name m q].filterMap fun
    | .Name id pos => if (X.env.kindOf id == some .local && pos.line == p.line) = true then some id else none
    | _ => none) = [n, m] := by
    rw [List.filterMap_cons_some (b := n) (by show (if (X.env.kindOf n == some .local && p.line == p.line) = true then some n else none) = some n; rw [if_pos q1]),
      List.filterMap_cons_some (b := m) (by show (if (X.env.kindOf m == some .local && q.line == p.line) = true then some m else none) = some m; rw [if_pos q2]), List.filterMap_nil]
  unfold swappedStores
  simp only [hb, h7, h8]
  rw [if_neg (by show ¬ (ScopeKind.function != ScopeKind.function) = true; decide)]
  rw [if_neg (by intro z; exact Bool.false_ne_true (s1.symm.trans z))]
  generalize hL : (List.filterMap _ [Expr.Name n p, Expr.Name m q]) = L
  have eL : L = [n, m] := hL.symm.trans fm
  subst eL
  rw [ed] <;> rfl

structure SS (Γ : Gm) (C : Fns) (k : Nat) (st : S) : Prop where
  s : ∀ sc x, (chkS Γ sc st).s x = true → sc.kind = .function → ∀ X, OX Γ C k sc sc X → PS X x (tS X.K Γ.lk (ex C Γ.G st))
  b : ∀ sc xs, (chkS Γ sc st).b xs = true → sc.kind = .function → ∀ X, OX Γ C k sc sc X → PSs X xs (tS X.K Γ.lk (ex C Γ.G st))
theorem SS.of {st : S} {f : Scope → Stmt → Bool} (hc : ∀ sc, chkS Γ sc st = cs (f sc)) (h : ∀ sc x, f sc x = true → sc.kind = .function → ∀ X, OX Γ C k sc sc X → PS X x (tS X.K Γ.lk (ex C Γ.G st))) : SS Γ C k st where
  s := fun sc x q => by
    rw [hc] at q
    exact h sc x q
  b := fun sc xs q => by rw [hc] at q; cases q
theorem OX.hp (O : OX Γ C k sc sc X) : PassesOwn (model X.prog X.w) X.A X.env X.xe := by rw [O.xe]; exact PassesOwn.never
theorem ss_skip : SS Γ C k .skip := .of (fun _ => rfl) fun sc x h hk X O => by
  cases x with
  | Pass pos => exact PS.imp ps_pass fun _ _ _ q => nx_of q
  | Expr v pos =>
    cases v with
    | Constant c j p2 =>
      cases c with
      | str z => exact PS.imp ps_doc fun _ _ _ q => nx_of q
      | _ => cases h
    | _ => cases h
  | _ => cases h
theorem ss_set {i : Nat} {e : E} : SS Γ C k (.set i e) := .of (fun _ => rfl) fun sc x h hk X O => by
  cases x with
  | Assign ts v pos =>
    match ts, h with
    | [.Name n p], h =>
      obtain ⟨h1, h⟩ := and2 h
      obtain ⟨h2, h⟩ := and2 h
      obtain ⟨h3, h⟩ := and2 h
      obtain ⟨h4, h5⟩ := and2 h
      obtain ⟨f1, f2⟩ := O.fn n h2
      have hi := not_lk h3
      have hN : X.N.Nodup := by rw [O.N]; exact O.nd
      have hx : X.N[i]? = some n := by rw [O.N]; exact ixB_ok h1
      have f1' : L2.Loc X.env.scope n := by rw [O.scp]; exact f1
      have f2' : X.fn n = true ∨ X.env.scope.names.lookup n = some .local := by rw [O.scp]; exact f2
      unfold setB at h5
      by_cases hl : notLc v = true
      · rw [if_pos hl] at h5
        have A := (sx e (Γ := Γ) (C := C) (k := k)).ex _ _ _ h5 X O
        have pl := (sx e (Γ := Γ) (C := C) (k := k)).pl _ _ _ h5
        exact PS.imp (ps_set hN hx f1' A.v (sw_plain pl hl) f2') fun D σ H q => set_of hi q
      · rw [if_neg hl] at h5
        cases e with
        | lc tg it src ifs elt ow =>
          obtain ⟨el, t, iter, is, scope, vp, rfl, P⟩ := lc_parts (sx src) (fun a b e => by subst e; exact sx a) (sx ifs) (sx elt) O h5
          have hw := sw_lc (elt := el) (gs := [⟨t, iter, is, 0⟩]) (scope := scope) (vp := vp) (p := p) (n := n) (l := pos.line) O hk
          have rd : ∀ D σ H, tS X.K Γ.lk (ex C Γ.G (.set i (.lc tg it src ifs elt ow))) D σ H → tLc (tI X.K it (ev C Γ.G src).ps) (tG X.K tg) (tT X.K (tst1 (ev C Γ.G ifs))) (tP X.K (ev C Γ.G elt).p) (ow.map (·.2)) σ H fun x H1 => D.nx (σ.set i (some x)) H1 := fun D σ H q => lcV_of P.sub (set_of hi q)
          cases hs : swB sc n p (.ListComp el [⟨t, iter, is, 0⟩] scope vp) with
          | true =>
            rw [hs] at hw
            have hloc : X.env.scope.names.lookup n = some .local := by rw [O.scp]; exact localB_ok (and2 hs).1
            exact PS.imp (ps_setLc O.calm hN hx hloc hw P.pi P.ok P.pg P.pt P.pe (folded_seq P.pl)) fun D σ H q => rd D σ H q
          | false =>
            rw [hs] at hw
            exact PS.imp (ps_set hN hx f1' (pe_lc O.calm hN P.pi P.ok P.pg P.pt P.pe (folded_seq P.pl)) hw f2') fun D σ H q => rd D σ H q
        | _ => cases h5
  | _ => cases h
theorem ss_unp {is : List Nat} {e : E} : SS Γ C k (.unp is e) := .of (fun _ => rfl) fun sc x h hk X O => by
  cases x with
  | Assign ts v pos =>
    match ts, h with
    | [.Tuple us j tp], h =>
      obtain ⟨h1, h⟩ := and2 h
      obtain ⟨h2, h⟩ := and2 h
      obtain ⟨h3, h4⟩ := and2 h
      have A := (sx e (Γ := Γ) (C := C) (k := k)).ex _ _ _ h4 X O
      have T : PG X (.Tuple us j tp) (tG X.K (.tp is)) := tg_ok (tg := .tp is) O h1
      exact PS.imp (ps_asg A.v T (sw_sole (fun _ _ q => by cases q)) (stores_none (.inr h3)) rfl) fun D σ H q => unp_of (alls_lk h2) q
  | _ => cases h
theorem ss_par {i j : Nat} {a b : E} : SS Γ C k (.par i j a b) := .of (fun _ => rfl) fun sc x h hk X O => by
  cases x with
  | Assign ts v pos =>
    match ts, v, h with
    | [.Tuple [.Name n p, .Name m q] j1 tp], .Tuple [v, w] j2 vp, h =>
      obtain ⟨h1, h⟩ := and2 h
      obtain ⟨h2, h⟩ := and2 h
      obtain ⟨h3, h⟩ := and2 h
      obtain ⟨h4, h⟩ := and2 h
      obtain ⟨h5, h⟩ := and2 h
      obtain ⟨h6, h⟩ := and2 h
      obtain ⟨h7, h⟩ := and2 h
      obtain ⟨h8, h⟩ := and2 h
      obtain ⟨h9, h⟩ := and2 h
      obtain ⟨h10, h⟩ := and2 h
      obtain ⟨h11, h⟩ := and2 h
      obtain ⟨h12, h13⟩ := and2 h
      have A := (sx a (Γ := Γ) (C := C) (k := k)).ex _ _ _ h12 X O
      have B := (sx b (Γ := Γ) (C := C) (k := k)).ex _ _ _ h13 X O
      have pa := (sx a (Γ := Γ) (C := C) (k := k)).pl _ _ _ h12
      have pb := (sx b (Γ := Γ) (C := C) (k := k)).pl _ _ _ h13
      have l1 : X.env.scope.names.lookup n = some .local := by rw [O.scp]; exact localB_ok h3
      have l2 : X.env.scope.names.lookup m = some .local := by rw [O.scp]; exact localB_ok h4
      have hN : X.N.Nodup := by rw [O.N]; exact O.nd
      exact PS.imp (ps_par O.calm hN (by rw [O.N]; exact ixB_ok h1) (by rw [O.N]; exact ixB_ok h2) (of_decide_eq_true h6) l1 l2 (pa_cons A.v (pa_cons B.v pa_nil (star_cons pb)) (star_cons pa))
        (par_sw O hk h3 h4 h5 (of_decide_eq_true h9) h10 h11 pa pb) (sw_sole (fun _ _ q => by cases q))) fun D σ H q => par_of (not_lk h7) (not_lk h8) q
  | _ => cases h
theorem ss_stx {i : Nat} {ie e : E} : SS Γ C k (.stx i ie e) := .of (fun _ => rfl) fun sc x h hk X O => by
  cases x with
  | Assign ts v pos =>
    match ts, h with
    | [.Subscript (.Name n np) ix sp], h =>
      obtain ⟨h1, h⟩ := and2 h
      obtain ⟨h2, h3⟩ := and2 h
      have A := (sx ie (Γ := Γ) (C := C) (k := k)).ex _ _ _ h2 X O
      have pi := (sx ie (Γ := Γ) (C := C) (k := k)).pl _ _ _ h2
      have B := (sx e (Γ := Γ) (C := C) (k := k)).ex _ _ _ h3 X O
      have hs : PG X (.Subscript (.Name n np) ix sp) (gSub (tVar i) (tP X.K (ev C Γ.G ie).p) rSetL) := pg_sub (O.var h1) A.p set_list (by
        intro u
        cases ix <;> first | rfl | exact absurd pi Bool.false_ne_true)
      exact PS.imp (ps_asg B.p hs (sw_sole (fun _ _ q => by cases q)) (stores_none (.inl ⟨(fun _ _ _ q => by cases q), (fun _ _ q => by cases q)⟩)) rfl) fun D σ H q => stx_of q
  | _ => cases h
theorem ss_aug {i : Nat} {o : Bop} {e : E} : SS Γ C k (.aug i o e) := .of (fun _ => rfl) fun sc x h hk X O => by
  cases x with
  | AugAssign t op v pos =>
    cases t with
    | Name n p =>
      obtain ⟨h1, h⟩ := and2 h
      obtain ⟨h2, h⟩ := and2 h
      obtain ⟨h3, h⟩ := and2 h
      obtain ⟨h4, h⟩ := and2 h
      obtain ⟨h5, h6⟩ := and2 h
      obtain ⟨f1, f2⟩ := O.fn n h2
      have A := (sx e (Γ := Γ) (C := C) (k := k)).ex _ _ _ h6 X O
      have hN : X.N.Nodup := by rw [O.N]; exact O.nd
      have hx : X.N[i]? = some n := by rw [O.N]; exact ixB_ok h1
      have f1' : L2.Loc X.env.scope n := by rw [O.scp]; exact f1
      have f2' : X.fn n = true ∨ X.env.scope.names.lookup n = some .local := by rw [O.scp]; exact f2
      obtain rfl := of_decide_eq_true h4
      cases o with
      | add => exact PS.imp (ps_aug hN hx f1' A.p ip_add f2') fun D σ H q => aug_of (not_lk h3) (.inl ⟨rfl, rfl⟩) q
      | sub => exact PS.imp (ps_aug hN hx f1' A.p ip_sub f2') fun D σ H q => aug_of (not_lk h3) (.inr ⟨rfl, rfl⟩) q
      | _ => cases h5
    | _ => cases h
  | _ => cases h
theorem ss_exp {e : E} : SS Γ C k (.exp e) := .of (fun _ => rfl) fun sc x h hk X O => by
  cases x with
  | Expr v pos =>
    obtain ⟨h1, h2⟩ := and2 h
    have A := (sx e (Γ := Γ) (C := C) (k := k)).ex _ _ _ h2 X O
    have pl := (sx e (Γ := Γ) (C := C) (k := k)).pl _ _ _ h2
    exact PS.imp (ps_expr A.v (sw_plain pl h1)) fun D σ H q => exp_of q
  | _ => cases h
theorem ss_ret {e : E} : SS Γ C k (.ret e) := .of (fun _ => rfl) fun sc x h hk X O => by
  cases x with
  | Return v pos =>
    cases v with
    | some v => exact PS.imp (ps_ret ((sx e (Γ := Γ) (C := C) (k := k)).ex _ _ _ h X O).v) fun D σ H q => ret_of q
    | none => cases h
  | _ => cases h
theorem ss_retN : SS Γ C k .retN := .of (fun _ => rfl) fun sc x h hk X O => by
  cases x with
  | Return v pos =>
    cases v with
    | some v => cases h
    | none => exact PS.imp ps_retN fun D σ H q => retN_of q
  | _ => cases h
theorem ss_brk : SS Γ C k .brk := .of (fun _ => rfl) fun sc x h hk X O => by
  cases x with
  | Break pos => exact PS.imp ps_break fun D σ H q => bk_of q
  | _ => cases h
theorem ss_cnt : SS Γ C k .cnt := .of (fun _ => rfl) fun sc x h hk X O => by
  cases x with
  | Continue pos => exact PS.imp ps_continue fun D σ H q => ct_of q
  | _ => cases h
theorem ss_ite {t : E} {a b : S} (ha : SS Γ C k a) (hb : SS Γ C k b) : SS Γ C k (.ite t a b) := .of (fun _ => rfl) fun sc x h hk X O => by
  cases x with
  | If y u v pos =>
    obtain ⟨h1, h⟩ := and2 h
    obtain ⟨h2, h3⟩ := and2 h
    exact PS.imp (ps_if ((sx t (Γ := Γ) (C := C) (k := k)).ex _ _ _ h1 X O).t (ha.b _ _ h2 hk X O) (hb.b _ _ h3 hk X O)) fun D σ H q => ite_of q
  | _ => cases h
theorem ss_for {tg : Tg} {it : It} {src : E} {body : S} (hb : SS Γ C k body) : SS Γ C k (.for_ tg it src body) := .of (fun _ => rfl) fun sc x h hk X O => by
  cases x with
  | For t iter bd orelse pos =>
    cases orelse with
    | cons _ _ => cases h
    | nil =>
      obtain ⟨h1, h⟩ := and2 h
      obtain ⟨h2, h⟩ := and2 h
      obtain ⟨h3, h4⟩ := and2 h
      exact PS.imp (ps_for O.hp O.calm (iter_ok O (sx src) (fun a b e => by subst e; exact sx a) h3) (tg_ok O h1) (hb.b _ _ h4 hk X O) (folded_seq (iter_plain h3))) fun D σ H q => for_of (alls_lk h2) q
  | _ => cases h
theorem ss_whl {n : Nat} {t : E} {body : S} (hb : SS Γ C k body) : SS Γ C k (.whl n t body) := .of (fun _ => rfl) fun sc x h hk X O => by
  cases x with
  | While y bd orelse pos =>
    cases orelse with
    | cons _ _ => cases h
    | nil =>
      obtain ⟨h1, h2⟩ := and2 h
      exact PS.imp (ps_while O.hp ((sx t (Γ := Γ) (C := C) (k := k)).ex _ _ _ h1 X O).t (hb.b _ _ h2 hk X O)) fun D σ H q => whl_of q
  | _ => cases h
theorem ss_done : SS Γ C k .done where
  s := fun sc x h => by cases h
  b := fun sc xs h hk X O => by
    have e : xs = [] := List.isEmpty_iff.mp h
    subst e
    exact PSs.imp pss_nil fun D σ H q => nx_of q
theorem ss_seq {a b : S} (ha : SS Γ C k a) (hb : SS Γ C k b) : SS Γ C k (.seq a b) where
  s := fun sc x h => by cases h
  b := fun sc xs h hk X O => by
    cases xs with
    | nil => cases h
    | cons x r =>
      obtain ⟨h1, h2⟩ := and2 h
      exact PSs.imp (pss_cons (ha.s _ _ h1 hk X O) (hb.b _ _ h2 hk X O)) fun D σ H q => seq_of q
theorem ss : ∀ s : S, SS Γ C k s
  | .skip => ss_skip
  | .set i e => ss_set
  | .unp is e => ss_unp
  | .par i j a b => ss_par
  | .stx i ie e => ss_stx
  | .aug i o e => ss_aug
  | .exp e => ss_exp
  | .ret e => ss_ret
  | .retN => ss_retN
  | .ite t a b => ss_ite (ss a) (ss b)
  | .for_ tg it src body => ss_for (ss body)
  | .whl n t body => ss_whl (ss body)
  | .brk => ss_brk
  | .cnt => ss_cnt
  | .done => ss_done
  | .seq a b => ss_seq (ss a) (ss b)
end
end Pv

set_option Elab.async false
set_option linter.all false
set_option maxRecDepth 100000
set_option maxHeartbeats 8000000
/-! EvH: every def keeps the promise that run tells; a law's end. -/
namespace Pv
open PySem PySem.Spec PyProof.Rows L2
/-- a def of the text -/
structure DI where
  nm : Str
  N : List Str
  ps : List Str
  st : Stmt
  fd : FD
def scB (N ps : List Str) (sc : Scope) : Bool :=
  decide (sc.kind = .function) && (!sc.isCoroutine && (!sc.isGenerator && (decide N.Nodup && (decide (N.take ps.length = ps) && (ps.all (locB sc) && sc.names.all fun y => match y.2 with | .free => false | _ => true)))))
def okName (x : Str) : Bool := !(x == ("__debug__" : Str)) && !(x == ("__classdict__" : Str))
def DI.ok (G : List (Str × PyData)) (Fs : List (Str × Nat)) (d : DI) : Bool :=
  scB d.N d.ps (defScope d.st) && (d.N.all okName && (decide (d.fd.np = d.ps.length) && (decide (d.fd.ns = d.N.length) && (chkS ⟨d.N, G, Fs, d.fd.lk⟩ (defScope d.st) d.fd.body).b (defBody d.st))))
theorem okName_ok {x : Str} (h : okName x = true) : (x == ("__debug__" : Str)) = false ∧ (x == ("__classdict__" : Str)) = false := by
  obtain ⟨h1, h2⟩ := and2 h
  exact ⟨by simpa using h1, by simpa using h2⟩
theorem scB_ok {N ps : List Str} {sc : Scope} (h : scB N ps sc = true) : FnScope N ps sc := by
  obtain ⟨h1, h⟩ := and2 h
  obtain ⟨h2, h⟩ := and2 h
  obtain ⟨h3, h⟩ := and2 h
  obtain ⟨h4, h⟩ := and2 h
  obtain ⟨h5, h⟩ := and2 h
  obtain ⟨h6, h7⟩ := and2 h
  refine ⟨of_decide_eq_true h1, by simpa using h2, by simpa using h3, of_decide_eq_true h4, of_decide_eq_true h5, fun x hx => lookup_locB (List.all_eq_true.mp h6 x hx), fun y hy e => ?_⟩
  have q := List.all_eq_true.mp h7 y hy
  rw [e] at q
  cases q
def fnames (ds : List DI) : List (Str × Nat) := ds.map fun d => (d.nm, d.fd.np)
def fds (ds : List DI) : List FD := ds.map (·.fd)
section
variable {K : PySem.W.Frag} {Z : Addr → Prop} {H : Hp}
theorem run_len {G : List (Str × PyData)} {F : List FD} {k f : Nat} {fd : FD} (hf : F[f]? = some fd) {ds : List D} {r : D × List D} (h : run G F k f ds = some r) : ds.length = fd.np := by
  cases k with
  | zero => cases h
  | succ k =>
    have h' : (F[f]?).bind (fun fd => if (decide (ds.length = fd.np) && lkOk fd.lk 0 ds) = true then outS fd.np ds (ex (run G F k) G fd.body (startV fd.ns ds)) else none) = some r := h
    rw [hf] at h'
    have h2 : (if (decide (ds.length = fd.np) && lkOk fd.lk 0 ds) = true then outS fd.np ds (ex (run G F k) G fd.body (startV fd.ns ds)) else none) = some r := h'
    by_cases hc : (decide (ds.length = fd.np) && lkOk fd.lk 0 ds) = true
    · exact of_decide_eq_true (and2 hc).1
    · rw [if_neg hc] at h2; cases h2
theorem lkOk_at {lk : List Nat} : ∀ {ds : List D} {i j : Nat} {xs : List PyData}, lkOk lk i ds = true → ds[j]? = some (.own xs) → i + j ∈ lk
  | [], _, _, _, _, h => by simp at h
  | .p x :: ds, i, 0, _, _, h => by simp at h
  | .p x :: ds, i, j + 1, _, q, h => by
    have := lkOk_at (i := i + 1) (j := j) (show lkOk lk (i + 1) ds = true from q) (by simpa using h)
    rw [show i + (j + 1) = i + 1 + j by omega]
    exact this
  | .own y :: ds, i, 0, _, q, h => List.contains_iff_mem.mp (and2 (show (lk.contains i && lkOk lk (i + 1) ds) = true from q)).1
  | .own y :: ds, i, j + 1, _, q, h => by
    have := lkOk_at (i := i + 1) (j := j) (and2 (show (lk.contains i && lkOk lk (i + 1) ds) = true from q)).2 (by simpa using h)
    rw [show i + (j + 1) = i + 1 + j by omega]
    exact this
theorem outs_at : ∀ {n : Nat} {ds ds' : List D} {ρ : EV}, outS.mapOuts n ds ρ = some ds' → ds'.length = ds.length ∧
    ∀ (i : Nat) (d' : D), ds'[i]? = some d' → (∃ x, ds[i]? = some (.p x) ∧ d' = .p x) ∨ (∃ xs, ds[i]? = some (.own xs) ∧ ρ[i]? = some (some d'))
  | n, [], ds', ρ, h => by
    cases n <;> (cases h; exact ⟨rfl, fun i d' q => by simp at q⟩)
  | 0, _ :: _, ds', ρ, h => by cases h
  | n + 1, d :: ds, ds', ρ, h => by
    cases d with
    | p x =>
      cases ρ with
      | nil => cases h
      | cons o r =>
        obtain ⟨es, e1, e2⟩ := Option.map_eq_some_iff.mp (show (outS.mapOuts n ds r).map (.p x :: ·) = some ds' from h)
        subst e2
        obtain ⟨l, g⟩ := outs_at e1
        refine ⟨by simp [l], fun i d' q => ?_⟩
        cases i with
        | zero => simp at q; subst q; exact .inl ⟨x, rfl, rfl⟩
        | succ i => simpa using g i d' (by simpa using q)
    | own ys =>
      cases ρ with
      | nil => cases h
      | cons o r =>
        cases o with
        | none => cases h
        | some e =>
          obtain ⟨es, e1, e2⟩ := Option.map_eq_some_iff.mp (show (outS.mapOuts n ds r).map (e :: ·) = some ds' from h)
          subst e2
          obtain ⟨l, g⟩ := outs_at e1
          refine ⟨by simp [l], fun i d' q => ?_⟩
          cases i with
          | zero => simp at q; subst q; exact .inr ⟨ys, rfl, rfl⟩
          | succ i => simpa using g i d' (by simpa using q)
theorem start_get {N : List Str} {vs : List V} {i : Nat} {v : V} (h : vs[i]? = some v) : (L2.start N vs)[i]? = some (some v) := by
  unfold L2.start
  have hi := (List.getElem?_eq_some_iff.mp h).1
  rw [List.getElem?_append_left (by simpa using hi), List.getElem?_map, h]
  rfl
theorem start_some {N : List Str} {vs : List V} {i : Nat} {v : V} (h : (L2.start N vs)[i]? = some (some v)) : vs[i]? = some v := by
  unfold L2.start at h
  by_cases hi : i < vs.length
  · rw [List.getElem?_append_left (by simpa using hi), List.getElem?_map] at h
    obtain ⟨u, e1, e2⟩ := Option.map_eq_some_iff.mp h
    cases e2
    exact e1
  · rw [List.getElem?_append_right (by simpa using hi), List.getElem?_replicate] at h
    split at h <;> cases h
theorem startV_some {ns : Nat} {ds : List D} {i : Nat} {d : D} (h : (startV ns ds)[i]? = some (some d)) : ds[i]? = some d := by
  unfold startV at h
  by_cases hi : i < ds.length
  · rw [List.getElem?_append_left (by simpa using hi), List.getElem?_map] at h
    obtain ⟨u, e1, e2⟩ := Option.map_eq_some_iff.mp h
    cases e2
    exact e1
  · rw [List.getElem?_append_right (by simpa using hi), List.getElem?_replicate] at h
    split at h <;> cases h
theorem map_some_get {α : Type} {l : List α} {i : Nat} {x : α} : (l.map some)[i]? = some (some x) ↔ l[i]? = some x := by
  rw [List.getElem?_map]
  constructor
  · intro h
    obtain ⟨u, e1, e2⟩ := Option.map_eq_some_iff.mp h
    cases e2
    exact e1
  · intro h
    rw [h]
    rfl
theorem RS.start {N : List Str} {vs : List V} {ds : List D} (R : RS K Z H (vs.map some) (ds.map some)) : RS K Z H (L2.start N vs) (startV N.length ds) := by
  have l : vs.length = ds.length := by simpa using R.len
  refine ⟨by unfold L2.start startV; simp [l], fun i d h => ?_, fun i j xs ys a h1 h2 h3 h4 => ?_, R.z⟩
  · obtain ⟨v, e1, e2⟩ := R.get i d (map_some_get.mpr (startV_some h))
    exact ⟨v, start_get (map_some_get.mp e1), e2⟩
  · exact R.ne i j xs ys a (map_some_get.mpr (startV_some h1)) (map_some_get.mpr (startV_some h2)) (map_some_get.mpr (start_some h3)) (map_some_get.mpr (start_some h4))
theorem OW.start {N : List Str} {n : Nat} {vs : List V} {ds : List D} {a : Addr} (h : OW (L2.start N vs) (startV n ds) a) : OW (vs.map some) (ds.map some) a := by
  obtain ⟨i, xs, h1, h2⟩ := h
  exact ⟨i, xs, map_some_get.mpr (startV_some h1), map_some_get.mpr (start_some h2)⟩
/-- behind a def's body -/
theorem end_of {lk : List Nat} {np : Nat} {N : List Str} {vs : List V} {ds ds' : List D} {σ' : L2.St} {ρ : EV} {Z' : Addr → Prop} {H' : Hp} (R : RS K Z H (vs.map some) (ds.map some)) (hlk : lkOk lk 0 ds = true)
    (A : AfterS K lk Z H (L2.start N vs) (startV N.length ds) σ' ρ Z' H') (e : outS.mapOuts np ds ρ = some ds') : After K Z H (vs.map some) (ds.map some) (ds'.map some) Z' H' ∧
      ∀ (i : Nat) (ys : List PyData) (a : Addr), ds'[i]? = some (.own ys) → vs[i]? = some (.ref a) → OW σ' ρ a := by
  obtain ⟨l, g⟩ := outs_at e
  have lv : vs.length = ds.length := by simpa using R.len
  have own : ∀ {i : Nat} {ys : List PyData}, ds'[i]? = some (.own ys) → (∃ xs, ds[i]? = some (.own xs)) ∧ ρ[i]? = some (some (.own ys)) ∧ ∀ v, vs[i]? = some v → σ'[i]? = some (some v) := fun {i ys} h => by
    rcases g i _ h with ⟨x, _, e2⟩ | ⟨xs, e1, e2⟩
    · cases e2
    · refine ⟨⟨xs, e1⟩, e2, fun v hv => ?_⟩
      have hi := lkOk_at hlk e1
      rw [Nat.zero_add] at hi
      rw [A.lk i hi]
      exact start_get hv
  refine ⟨⟨⟨by simp [l, lv], fun i d' h => ?_, fun i j xs ys a h1 h2 h3 h4 => ?_, A.rs.z⟩, A.st.mono fun a o => OW.start o, fun a ⟨i, ys, h1, h2⟩ => ?_⟩, fun i ys a h1 h2 => ?_⟩
  · have h := map_some_get.mp h
    have hi : i < vs.length := by rw [lv, ← l]; exact (List.getElem?_eq_some_iff.mp h).1
    have hv : vs[i]? = some vs[i] := by simp [hi]
    refine ⟨vs[i], map_some_get.mpr hv, ?_⟩
    rcases g i d' h with ⟨x, e1, e2⟩ | ⟨xs, e1, e2⟩
    · subst e2
      obtain ⟨v, q1, q2⟩ := R.get i _ (map_some_get.mpr e1)
      rw [map_some_get.mp q1] at hv; cases hv
      exact RP.step A.st (fun a o => OW.lst R (OW.start o)) x q2
    · obtain ⟨v, q1, q2⟩ := A.rs.get i d' e2
      have hk := lkOk_at hlk e1
      rw [Nat.zero_add] at hk
      rw [A.lk i hk, start_get hv] at q1
      cases q1
      exact q2
  · obtain ⟨_, q1, q2⟩ := own (map_some_get.mp h1)
    obtain ⟨_, k1, k2⟩ := own (map_some_get.mp h2)
    exact A.rs.ne i j xs ys a q1 k1 (q2 _ (map_some_get.mp h3)) (k2 _ (map_some_get.mp h4))
  · obtain ⟨⟨xs, q1⟩, _, _⟩ := own (map_some_get.mp h1)
    exact ⟨i, xs, map_some_get.mpr q1, h2⟩
  · obtain ⟨_, q1, q2⟩ := own h1
    exact ⟨i, ys, q1, q2 _ h2⟩
end
/-- THE THEOREM: each def does what run tells, at every level -/
theorem fns_ok {P : Program} {w : World} {K : PySem.W.Frag} {mg : Str → Option Value} {base : Heap} {ds : List DI} {G : List (Str × PyData)}
    (hok : ds.all (DI.ok G (fnames ds)) = true) (hG : ∀ (j : Nat) (p : Str × PyData), G[j]? = some p → (p.1 == ("__debug__" : Str)) = false ∧ ∃ u v, mg p.1 = some u ∧ RelV v u ∧ ∀ Z H, RP K Z H v p.2) (hB : ∀ x ∈ bltNames, mg x = none)
    (hF : ∀ (f : Nat) (d : DI), ds[f]? = some d → (d.nm == ("__debug__" : Str)) = false ∧ ∃ a fd, mg d.nm = some (.ref a) ∧ FunD K d.nm d.nm (defArgs d.st) (defBody d.st) (defScope d.st) [] [] a fd ∧ Binds K fd d.ps []) :
    ∀ (k f : Nat) (d : DI), ds[f]? = some d → ∀ (a : Addr) (fd : FuncData), FunD K d.nm d.nm (defArgs d.st) (defBody d.st) (defScope d.st) [] [] a fd → FnOk P w K mg base CX0 k a fd d.ps (spF K d.fd.np (run G (fds ds) k f)) := by
  intro k
  induction k with
  | zero =>
    intro f d hd a fd F
    have e0 : d.fd.np = d.ps.length := by
      have q := List.all_eq_true.mp hok d (List.mem_of_getElem? hd)
      exact of_decide_eq_true (and2 (and2 (and2 q).2).2).1
    refine ⟨fun vs H Q E ⟨Z, es, d', es', h, _⟩ => by rw [h, e0], fun A outer s H args us vs Q E hr he hb hv ⟨Z, es, d', es', h1, h2, h3, _⟩ => by cases h3⟩
  | succ k ih =>
    intro f d hd a fd F
    have q := List.all_eq_true.mp hok d (List.mem_of_getElem? hd)
    obtain ⟨q1, q⟩ := and2 q
    obtain ⟨q2, q⟩ := and2 q
    obtain ⟨q3, q⟩ := and2 q
    obtain ⟨q4, q5⟩ := and2 q
    have S := scB_ok q1
    have e3 := of_decide_eq_true q3
    have e4 := of_decide_eq_true q4
    refine F.ok S (fun vs H Q E ⟨Z, es, d', es', h, _⟩ => by rw [h, e3]) fun cdv A outer s H vs Q E hr hsp => ?_
    let X : Cx := (cxOf CX0 P w K mg base d.N d.nm (defScope d.st) a cdv A outer s H E).nox
    have O : OX ⟨d.N, G, fnames ds, d.fd.lk⟩ (run G (fds ds) k) k (defScope d.st) (defScope d.st) X :=
      { N := rfl, nd := S.nd, scp := rfl, calm := rfl, xe := rfl, room := hr, nms := fun x hx => okName_ok (List.all_eq_true.mp q2 x hx), fn := fun x hx => ⟨lookup_locB hx, .inl rfl⟩, glob := hG, blt := hB
        fns := fun g p hp => by
          have hp' : (ds.map fun d => (d.nm, d.fd.np))[g]? = some p := hp
          rw [List.getElem?_map] at hp'
          obtain ⟨d2, h1, h2⟩ := Option.map_eq_some_iff.mp hp'
          subst h2
          obtain ⟨nd, a2, fd2, h3, h4, h5⟩ := hF g d2 h1
          refine ⟨nd, a2, fd2, d2.ps, h3, h4.kp, h5, ih g d2 h1 a2 fd2 h4, fun es r h => run_len (fd := d2.fd) ?_ h⟩
          unfold fds
          rw [List.getElem?_map, h1]
          rfl }
    refine ⟨tS K d.fd.lk (ex (run G (fds ds) k) G d.fd.body), PSs.nox ((ss d.fd.body).b _ _ q5 S.kind X O), ?_⟩
    obtain ⟨Z, es, d', es', h1, R, h3, hl, kk⟩ := hsp
    have hfd : (fds ds)[f]? = some d.fd := by
      unfold fds
      rw [List.getElem?_map, hd]
      rfl
    have h3' : ((fds ds)[f]?).bind (fun fd => if (decide (es.length = fd.np) && lkOk fd.lk 0 es) = true then outS fd.np es (ex (run G (fds ds) k) G fd.body (startV fd.ns es)) else none) = some (d', es') := h3
    rw [hfd] at h3'
    have h4 : (if (decide (es.length = d.fd.np) && lkOk d.fd.lk 0 es) = true then outS d.fd.np es (ex (run G (fds ds) k) G d.fd.body (startV d.fd.ns es)) else none) = some (d', es') := h3'
    by_cases hc : (decide (es.length = d.fd.np) && lkOk d.fd.lk 0 es) = true
    · rw [if_pos hc] at h4
      obtain ⟨_, hlk⟩ := and2 hc
      have R' : RS K Z H (L2.start d.N vs) (startV d.N.length es) := R.start
      rw [e4] at h4
      cases ho : ex (run G (fds ds) k) G d.fd.body (startV d.N.length es) with
      | none => rw [ho] at h4; cases h4
      | some o =>
        rw [ho] at h4
        refine ⟨Z, startV d.N.length es, o, R', ho, ?_⟩
        cases o with
        | nx ρ =>
          obtain ⟨r, g1, g2⟩ := Option.map_eq_some_iff.mp (show (outS.mapOuts d.fd.np es ρ).map (fun r => (D.p .none, r)) = some (d', es') from h4)
          cases g2
          intro σ' H' Z' A'
          obtain ⟨B, _⟩ := end_of R hlk A' g1
          exact kk .non H' Z' B .non .p
        | ret dd ρ =>
          obtain ⟨r, g1, g2⟩ := Option.map_eq_some_iff.mp (show (outS.mapOuts d.fd.np es ρ).map (fun r => (dd, r)) = some (d', es') from h4)
          cases g2
          intro v σ' H' Z' A' rv nv
          obtain ⟨B, own⟩ := end_of R hlk A' g1
          refine kk v H' Z' B rv fun xs b e1 e2 => ?_
          obtain ⟨m1, m2⟩ := nv xs b e1 e2
          refine ⟨fun ⟨i, ys, w1, w2⟩ => m1 (own i ys b (map_some_get.mp w1) (map_some_get.mp w2)), m2.imp OW.start id⟩
        | bk ρ => cases h4
        | ct ρ => cases h4
    · rw [if_neg hc] at h4; cases h4
end Pv

set_option Elab.async false
set_option linter.all false
set_option maxRecDepth 100000
set_option maxHeartbeats 8000000
/-! EvI: from the head's facts to a law's end. -/
namespace Pv
open PySem PySem.Spec PyProof.Rows L2
def DI.defD (d : DI) : He.DefD := ⟨(d.nm, none), d.nm, d.nm, defArgs d.st, defBody d.st, defScope d.st, [], []⟩
def gFa : Str × PyData → He.Fa
  | (x, .int i) => .int x i
  | (x, .str z) => .str x z
  | (x, _) => .int x 0
def gOk : Str × PyData → Bool
  | (x, .int _) => !(x == ("__debug__" : Str))
  | (x, .str _) => !(x == ("__debug__" : Str))
  | _ => false
def faOf (ds : List DI) (G : List (Str × PyData)) : List He.Fa := (ds.map fun d => He.Fa.glo d.nm) ++ (bltNames.map He.Fa.free ++ G.map gFa)
/-- how a def's arguments are bound -/
def BP (d : DI) : Prop := ∀ (kV doc pm : Value) (an : Option Addr) (cdv ct : Value) (us : List Value), us.length = d.ps.length → bindArgs (PySem.W.fnOf d.nm d.nm (defArgs d.st) (defBody d.st) (defScope d.st) .none kV doc pm an cdv ct) ⟨us, []⟩ = pure (d.ps.zip us)
section
variable {P : Program} {w : World} {K : PySem.W.Frag} {mg : Str → Option Value} {h : Heap} {ds : List DI} {G : List (Str × PyData)}
theorem fact_mem {fa : List He.Fa} {fn : List He.DefD} (c : He.SaysD fa fn K) {f : He.Fa} (h : f ∈ fa) : f.ok K = true := by
  obtain ⟨i, hi⟩ := List.mem_iff_getElem?.mp h
  exact c.fact i hi
theorem top_ok (KX : K.In h) (hns : h.Ns mainGlobals mg) (c : He.SaysD (faOf ds G) (ds.map DI.defD) K) (hb : ∀ d ∈ ds, BP d) (hok : ds.all (DI.ok G (fnames ds)) = true) (hg : G.all gOk = true) (hn : ds.all (fun d => !(d.nm == ("__debug__" : Str))) = true) :
    ∀ (base : Heap), K.In base → base.Ns mainGlobals mg → ∀ (k f : Nat) (d : DI), ds[f]? = some d → ∃ (a : Addr) (fd : FuncData), mg d.nm = some (.ref a) ∧ FunD K d.nm d.nm (defArgs d.st) (defBody d.st) (defScope d.st) [] [] a fd ∧
      FnOk P w K mg base CX0 k a fd d.ps (spF K d.fd.np (run G (fds ds) k f)) := by
  have hF : ∀ (f : Nat) (d : DI), ds[f]? = some d → (d.nm == ("__debug__" : Str)) = false ∧ ∃ a fd, mg d.nm = some (.ref a) ∧ FunD K d.nm d.nm (defArgs d.st) (defBody d.st) (defScope d.st) [] [] a fd ∧ Binds K fd d.ps [] := fun f d hd => by
    have hm := List.mem_of_getElem? hd
    obtain ⟨fd, F⟩ := c.def_ f (d := d.defD) (by rw [List.getElem?_map, hd]; rfl)
    have hgl := He.glo_ok KX hns (fact_mem c (f := .glo d.nm) (List.mem_append_left _ (List.mem_map.mpr ⟨d, hm, rfl⟩)))
    have F' : FunD K d.nm d.nm (defArgs d.st) (defBody d.st) (defScope d.st) [] [] (He.ga K d.nm) fd := F
    exact ⟨by simpa using List.all_eq_true.mp hn d hm, _, fd, hgl, F', F'.bindsN (hb d hm)⟩
  have hG : ∀ (j : Nat) (p : Str × PyData), G[j]? = some p → (p.1 == ("__debug__" : Str)) = false ∧ ∃ u v, mg p.1 = some u ∧ RelV v u ∧ ∀ Z H, RP K Z H v p.2 := fun j p hp => by
    have hm := List.mem_of_getElem? hp
    have hq := List.all_eq_true.mp hg p hm
    have hf : (gFa p).ok K = true := fact_mem c (List.mem_append_right _ (List.mem_append_right _ (List.mem_map.mpr ⟨p, hm, rfl⟩)))
    obtain ⟨x, y⟩ := p
    cases y with
    | int i =>
      obtain ⟨t, ht⟩ := He.int_ok KX hns hf
      exact ⟨by simpa [gOk] using hq, _, .int i, ht, ⟨t, rfl⟩, fun _ _ => .int i⟩
    | str z =>
      obtain ⟨t, ht⟩ := He.str_ok KX hns hf
      exact ⟨by simpa [gOk] using hq, _, .str z, ht, ⟨t, rfl⟩, fun _ _ => .str z⟩
    | _ => cases hq
  have hB : ∀ x ∈ bltNames, mg x = none := fun x hx => He.free_ok KX hns (fact_mem c (f := .free x) (List.mem_append_right _ (List.mem_append_left _ (List.mem_map.mpr ⟨x, hx, rfl⟩))))
  intro base hKb hnb k f d hd
  obtain ⟨_, a, fd, h1, h2, h3⟩ := hF f d hd
  exact ⟨a, fd, h1, h2, fns_ok (P := P) (w := w) (base := base) hok hG hB hF k f d hd a fd h2⟩
theorem FunD.uniq {x x' q q' : Str} {pa pa' : Arguments} {bd bd' : List Stmt} {sc sc' : Scope} {dv dv' : List V} {kw kw' : List (Str × V)} {a : Addr} {fd fd' : FuncData} (h : FunD K x q pa bd sc dv kw a fd) (h' : FunD K x' q' pa' bd' sc' dv' kw' a fd') : fd = fd' := by
  obtain ⟨oc, od, dV, kV, doc, pm, an, cdv, ct, osl, _, l, _⟩ := h.ex
  obtain ⟨oc', od', dV', kV', doc', pm', an', cdv', ct', osl', _, l', _⟩ := h'.ex
  rw [l] at l'
  cases l'
  rfl
/-- the script, as the law gets it -/
theorem script_rs {H : Hp} {a : Addr} {ns : List Int} (hO : Only H) (hS : SqL K H a (ns.map V.int)) : RS K (fun _ => False) H ([V.ref a].map some) ([D.p (.list (ns.map PyData.int))].map some) := by
  have rp : ∀ (ns : List Int), RPs K (fun _ => False) H (ns.map V.int) (ns.map PyData.int) := by
    intro ns
    induction ns with
    | nil => exact .nil
    | cons n ns ih => exact .cons (.int n) ih
  have hz : SqZ K (fun _ => False) H a (ns.map V.int) := by
    rcases hS with (h | ⟨o, h⟩) | h
    · rcases hO a with q | ⟨o, xs, q⟩
      · rw [h] at q; cases q
      · rw [h] at q; cases q
    · exact .inr (.inl ⟨o, h⟩)
    · exact .inr (.inr h)
  refine ⟨rfl, fun i d hd => ?_, fun i j xs ys b h1 => ?_, fun _ z => z.elim⟩
  · match i, hd with
    | 0, hd =>
      cases hd
      exact ⟨.ref a, rfl, .lst hz (rp ns)⟩
    | i + 1, hd => cases hd
  · match i, h1 with
    | 0, h1 => cases h1
    | i + 1, h1 => cases h1
/-- the law's promise, from what run tells of it -/
theorem law_sp {F : List D → Option (D × List D)} {n : Nat} (hrun : ∀ ns : List Int, ns.length ≤ n → ∃ ds', F [.p (.list (ns.map PyData.int))] = some (.p (.bool true), ds') ∧ ds'.length = 1) {H : Hp} {a : Addr} {ns : List Int} (hl : ns.length ≤ n) (hO : Only H) (hS : SqL K H a (ns.map V.int)) :
    spF K 1 F [.ref a] H (fun v _ => v = .bl true) fun _ _ _ => False := by
  obtain ⟨ds', h1, h2⟩ := hrun ns hl
  refine ⟨_, _, _, ds', rfl, script_rs hO hS, h1, h2, fun v H' Z' A r _ => ?_⟩
  cases r
  rfl
end
end Pv

set_option Elab.async false
set_option linter.all false
set_option maxRecDepth 100000
set_option maxHeartbeats 8000000
/-! EvS: the semantics as rules for simp; loops and comprehensions by their invariants. -/
namespace Pv
open PySem
section
variable (C : Fns) (G : List (Str × PyData))
@[simp] theorem toP_p (x : PyData) : (D.p x).toP = x := rfl
@[simp] theorem toP_own (xs : List PyData) : (D.own xs).toP = .list xs := rfl
@[simp] theorem mkV_v (f : EV → Option (D × EV)) : (mkV f).v = f := rfl
@[simp] theorem mkV_t (f : EV → Option (D × EV)) : (mkV f).t = tOfV f := rfl
@[simp] theorem mkV_o (f : EV → Option (D × EV)) : (mkV f).o = oOfV f := rfl
@[simp] theorem mkV_n (f : EV → Option (D × EV)) : (mkV f).isNil = false := rfl
@[simp] theorem M_p (m : M) (ρ : EV) : m.p ρ = (m.v ρ).map fun (d, ρ') => (d.toP, ρ') := rfl
@[simp] theorem tOfV_ (v : EV → Option (D × EV)) (ρ : EV) : tOfV v ρ = (v ρ).bind fun (d, ρ') => (truthS d.toP).map fun b => (b, ρ') := rfl
@[simp] theorem oOfV_ (v : EV → Option (D × EV)) (ρ : EV) : oOfV v ρ = (v ρ).map fun (d, ρ') => (.v d.toP, ρ') := rfl
@[simp] theorem vOfT_ (t : EV → Option (Bool × EV)) (ρ : EV) : vOfT t ρ = (t ρ).map fun (b, ρ') => (.p (.bool b), ρ') := rfl
@[simp] theorem bin2_ (f : PyData → PyData → Option D) (a b : EV → Option (Opd × EV)) (ρ : EV) : bin2 f a b ρ =
  (a ρ).bind fun (x, ρ1) => (b ρ1).bind fun (y, ρ2) => (rdO ρ2 x).bind fun px => (rdO ρ2 y).bind fun py => (f px py).map fun d => (d, ρ2) := rfl
@[simp] theorem cmp2_ (f : PyData → PyData → Option Bool) (a b : EV → Option (Opd × EV)) (ρ : EV) : cmp2 f a b ρ =
  (a ρ).bind fun (x, ρ1) => (b ρ1).bind fun (y, ρ2) => (rdO ρ2 x).bind fun px => (rdO ρ2 y).bind fun py => (f px py).map fun d => (d, ρ2) := rfl
@[simp] theorem un1_ (f : PyData → Option D) (a : EV → Option (Opd × EV)) (ρ : EV) : un1 f a ρ = (a ρ).bind fun (x, ρ1) => (rdO ρ1 x).bind fun px => (f px).map fun d => (d, ρ1) := rfl
@[simp] theorem lst1_ (f : List PyData → Option D) (a : EV → Option (List Opd × EV)) (ρ : EV) : lst1 f a ρ = (a ρ).bind fun (x, ρ1) => (rdOs ρ1 x).bind fun px => (f px).map fun d => (d, ρ1) := rfl
@[simp] theorem andV_ (a : EV → Option (PyData × EV)) (b : EV → Option (D × EV)) (ρ : EV) : andV a b ρ = (a ρ).bind fun (x, ρ1) => (truthS x).bind fun k => if k = true then b ρ1 else some (.p x, ρ1) := rfl
@[simp] theorem orV_ (a : EV → Option (PyData × EV)) (b : EV → Option (D × EV)) (ρ : EV) : orV a b ρ = (a ρ).bind fun (x, ρ1) => (truthS x).bind fun k => if k = true then some (.p x, ρ1) else b ρ1 := rfl
@[simp] theorem andT_ (a b : EV → Option (Bool × EV)) (ρ : EV) : andT a b ρ = (a ρ).bind fun (k, ρ1) => if k = true then b ρ1 else some (false, ρ1) := rfl
@[simp] theorem orT_ (a b : EV → Option (Bool × EV)) (ρ : EV) : orT a b ρ = (a ρ).bind fun (k, ρ1) => if k = true then some (true, ρ1) else b ρ1 := rfl
@[simp] theorem notT_ (a : EV → Option (Bool × EV)) (ρ : EV) : notT a ρ = (a ρ).map fun (k, ρ1) => (!k, ρ1) := rfl
@[simp] theorem ifV_ (t : EV → Option (Bool × EV)) (a b : EV → Option (D × EV)) (ρ : EV) : ifV t a b ρ = (t ρ).bind fun (k, ρ1) => if k = true then a ρ1 else b ρ1 := rfl
@[simp] theorem slV_ (a : EV → Option (Opd × EV)) (lo hi : M) (ρ : EV) : slV a lo hi ρ =
  (a ρ).bind fun (x, ρ1) => (partI lo ρ1).bind fun (l, ρ2) => (partI hi ρ2).bind fun (h, ρ3) => (rdO ρ3 x).bind fun px => (slS px l h).map fun d => (d, ρ3) := rfl
@[simp] theorem callV_ (f : Nat) (a : EV → Option (List Opd × EV)) (ρ : EV) : callV C f a ρ = (a ρ).bind fun (os, ρ1) => callS C f os ρ1 := rfl
@[simp] theorem callS_ (f : Nat) (os : List Opd) (ρ : EV) : callS C f os ρ =
  (argDs ρ os).bind fun ds => if nodupN (lent ρ os) = true then (C f ds).bind fun (d, ds') => if decide (ds'.length = ds.length) = true then some (d, backD ρ os ds') else none else none := rfl
@[simp] theorem rdO_v (ρ : EV) (x : PyData) : rdO ρ (.v x) = some x := rfl
@[simp] theorem argD_v (ρ : EV) (x : PyData) : argD ρ (.v x) = some (.p x) := rfl
@[simp] theorem ev_con (c : PyData) : ev C G (.con c) = mkV fun ρ => some (.p c, ρ) := rfl
@[simp] theorem ev_glob (k : Nat) : ev C G (.glob k) = mkV fun ρ => (G[k]?).map fun c => (.p c.2, ρ) := rfl
@[simp] theorem ev_var_v (i : Nat) (ρ : EV) : (ev C G (.var i)).v ρ = (frz ρ i).map fun (x, ρ') => (.p x, ρ') := rfl
@[simp] theorem ev_var_t (i : Nat) (ρ : EV) : (ev C G (.var i)).t ρ = tOfV (fun ρ => (frz ρ i).map fun (x, ρ') => (.p x, ρ')) ρ := rfl
@[simp] theorem ev_var_o (i : Nat) (ρ : EV) : (ev C G (.var i)).o ρ = opV ρ i := rfl
@[simp] theorem ev_var_n (i : Nat) : (ev C G (.var i)).isNil = false := rfl
@[simp] theorem ev_mov (i : Nat) : ev C G (.mov i) = mkV fun ρ => take ρ i := rfl
@[simp] theorem ev_bin (o : Bop) (a b : E) : ev C G (.bin o a b) = mkV (bin2 (binS o) (ev C G a).o (ev C G b).o) := rfl
@[simp] theorem ev_neg (a : E) : ev C G (.neg a) = mkV (un1 negS (ev C G a).o) := rfl
@[simp] theorem ev_nt (a : E) : ev C G (.nt a) = { mkV (vOfT (notT (tOfV (ev C G a).v))) with t := notT (ev C G a).t } := rfl
@[simp] theorem ev_cmp (o : Cop) (a b : E) : ev C G (.cmp o a b) = { mkV (vOfT (cmp2 (cmpS o) (ev C G a).o (ev C G b).o)) with t := cmp2 (cmpS o) (ev C G a).o (ev C G b).o } := rfl
@[simp] theorem ev_chain (o o' : Cop) (a b c : E) : ev C G (.chain o o' a b c) = { mkV (vOfT (chain3 (cmpS o) (cmpS o') (ev C G a).o (ev C G b).o (ev C G c).o)) with t := chain3 (cmpS o) (cmpS o') (ev C G a).o (ev C G b).o (ev C G c).o } := rfl
@[simp] theorem ev_and (a b : E) : ev C G (.andE a b) = { mkV (andV (ev C G a).p (ev C G b).v) with t := andT (ev C G a).t (ev C G b).t } := rfl
@[simp] theorem ev_or (a b : E) : ev C G (.orE a b) = { mkV (orV (ev C G a).p (ev C G b).v) with t := orT (ev C G a).t (ev C G b).t } := rfl
@[simp] theorem ev_ife (t a b : E) : ev C G (.ife t a b) = { mkV (ifV (ev C G t).t (ev C G a).v (ev C G b).v) with t := fun _ => none } := rfl
@[simp] theorem ev_tup (es : E) : ev C G (.tup es) = mkV fun ρ => ((ev C G es).ps ρ).bind fun (xs, ρ1) => if fits xs.length = true then some (.p (.tuple xs), ρ1) else none := rfl
@[simp] theorem ev_lst (es : E) : ev C G (.lst es) = mkV fun ρ => ((ev C G es).ps ρ).bind fun (xs, ρ1) => if fits xs.length = true then some (.own xs, ρ1) else none := rfl
@[simp] theorem ev_nil_l (ρ : EV) : (ev C G .nil).l ρ = some ([], ρ) := rfl
@[simp] theorem ev_nil_ps (ρ : EV) : (ev C G .nil).ps ρ = some ([], ρ) := rfl
@[simp] theorem ev_nil_n : (ev C G .nil).isNil = true := rfl
@[simp] theorem ev_cons_l (e es : E) (ρ : EV) : (ev C G (.cons e es)).l ρ = ((ev C G e).o ρ).bind fun (o, ρ1) => ((ev C G es).l ρ1).map fun (os, ρ2) => (o :: os, ρ2) := rfl
@[simp] theorem ev_cons_ps (e es : E) (ρ : EV) : (ev C G (.cons e es)).ps ρ = ((ev C G e).p ρ).bind fun (x, ρ1) => ((ev C G es).ps ρ1).map fun (xs, ρ2) => (x :: xs, ρ2) := rfl
@[simp] theorem ev_ix (a i : E) : ev C G (.ix a i) = mkV (bin2 (fun x y => (ixS x y).map .p) (ev C G a).o (ev C G i).o) := rfl
@[simp] theorem ev_sl (a lo hi : E) : ev C G (.sl a lo hi) = mkV (slV (ev C G a).o (ev C G lo) (ev C G hi)) := rfl
@[simp] theorem ev_blt (b : Blt) (es : E) : ev C G (.blt b es) = mkV (lst1 (bltS b) (ev C G es).l) := rfl
@[simp] theorem ev_lrg1 (a : E) : ev C G (.lrg1 a) = mkV (un1 (fun x => (rngS [x]).map .own) (ev C G a).o) := rfl
@[simp] theorem ev_lrg2 (a b : E) : ev C G (.lrg2 a b) = mkV (bin2 (fun x y => (rngS [x, y]).map .own) (ev C G a).o (ev C G b).o) := rfl
@[simp] theorem ev_isi (T : Ty) (a : E) : ev C G (.isi T a) = mkV (un1 (fun x => (isiS T x).map fun b => .p (.bool b)) (ev C G a).o) := rfl
@[simp] theorem ev_call (f : Nat) (es : E) : ev C G (.call f es) = mkV (callV C f (ev C G es).l) := rfl
@[simp] theorem ev_meth (m : Mth) (i : Nat) (es : E) : ev C G (.meth m i es) = mkV (methV m i (ev C G es).ps) := rfl
theorem ev_lc (tg : Tg) (it : It) (src ifs elt : E) (own : List (Str × Nat)) : ev C G (.lc tg it src ifs elt own) = mkV (lcV tg it (ev C G src).ps (ev C G ifs) (ev C G elt).p (own.map (·.2))) := rfl
@[simp] theorem partI_nil (ρ : EV) : partI (ev C G .nil) ρ = some (none, ρ) := rfl
theorem partI_some {m : M} (h : m.isNil = false) (ρ : EV) : partI m ρ = (m.v ρ).bind fun (d, ρ1) => match d with
  | .p (.int i) => some (some i, ρ1)
  | _ => none := by unfold partI; rw [h]; rfl
@[simp] theorem tst1_nil (ρ : EV) : tst1 (ev C G .nil) ρ = some (true, ρ) := rfl
theorem tst1_some {m : M} (h : m.isNil = false) (ρ : EV) : tst1 m ρ = m.t ρ := by unfold tst1; rw [h]; rfl
@[simp] theorem ex_set (i : Nat) (e : E) (ρ : EV) : ex C G (.set i e) ρ = ((ev C G e).v ρ).map fun (d, ρ1) => .nx (ρ1.set i (some d)) := rfl
@[simp] theorem ex_skip (ρ : EV) : ex C G .skip ρ = some (.nx ρ) := rfl
@[simp] theorem ex_done (ρ : EV) : ex C G .done ρ = some (.nx ρ) := rfl
@[simp] theorem ex_brk (ρ : EV) : ex C G .brk ρ = some (.bk ρ) := rfl
@[simp] theorem ex_cnt (ρ : EV) : ex C G .cnt ρ = some (.ct ρ) := rfl
@[simp] theorem ex_exp (e : E) (ρ : EV) : ex C G (.exp e) ρ = ((ev C G e).v ρ).map fun (_, ρ1) => .nx ρ1 := rfl
@[simp] theorem ex_ret (e : E) (ρ : EV) : ex C G (.ret e) ρ = ((ev C G e).v ρ).map fun (d, ρ1) => .ret d ρ1 := rfl
@[simp] theorem ex_retN (ρ : EV) : ex C G .retN ρ = some (.ret (.p .none) ρ) := rfl
@[simp] theorem ex_ite (t : E) (a b : S) (ρ : EV) : ex C G (.ite t a b) ρ = ((ev C G t).t ρ).bind fun (k, ρ1) => if k = true then ex C G a ρ1 else ex C G b ρ1 := rfl
@[simp] theorem ex_unp (is : List Nat) (e : E) (ρ : EV) : ex C G (.unp is e) ρ = ((ev C G e).v ρ).bind fun (d, ρ1) => match d with
    | .p (.tuple xs) => (asgNames ρ1 is xs).map .nx
    | _ => none := rfl
@[simp] theorem ex_par (i j : Nat) (a b : E) (ρ : EV) : ex C G (.par i j a b) ρ = ((ev C G a).v ρ).bind fun (d, ρ1) => ((ev C G b).v ρ1).map fun (e, ρ2) => .nx ((ρ2.set i (some d)).set j (some e)) := rfl
@[simp] theorem ex_stx (i : Nat) (ie e : E) (ρ : EV) : ex C G (.stx i ie e) ρ = if isOwn ρ i = true then ((ev C G e).p ρ).bind fun (x, ρ1) => if isOwn ρ1 i = true then ((ev C G ie).p ρ1).bind fun (k, ρ2) => match ρ2[i]? with
    | some (some (.own xs)) => (setItemS xs k x).map fun ys => .nx (ρ2.set i (some (.own ys)))
    | _ => none
    else none else none := rfl
@[simp] theorem ex_for (tg : Tg) (it : It) (src : E) (body : S) (ρ : EV) : ex C G (.for_ tg it src body) ρ = ((ev C G src).ps ρ).bind fun (xs, ρ1) => (itemsOf it xs).bind fun items => forL (fun ρ x => asgT ρ tg x) (ex C G body) items ρ1 := rfl
def nxt (f : EV → Option Out) : Out → Option Out
  | .nx ρ => f ρ
  | o => some o
@[simp] theorem nxt_nx (f : EV → Option Out) (ρ : EV) : nxt f (.nx ρ) = f ρ := rfl
@[simp] theorem nxt_ret (f : EV → Option Out) (d : D) (ρ : EV) : nxt f (.ret d ρ) = some (.ret d ρ) := rfl
@[simp] theorem nxt_bk (f : EV → Option Out) (ρ : EV) : nxt f (.bk ρ) = some (.bk ρ) := rfl
@[simp] theorem nxt_ct (f : EV → Option Out) (ρ : EV) : nxt f (.ct ρ) = some (.ct ρ) := rfl
@[simp] theorem ex_seq (a b : S) (ρ : EV) : ex C G (.seq a b) ρ = (ex C G a ρ).bind (nxt (ex C G b)) := by
  show (ex C G a ρ).bind _ = _
  congr
end
/-! ### slots -/
@[simp] theorem frz_p {ρ : EV} {i : Nat} : frz ρ i = match ρ[i]? with
  | some (some (.p x)) => some (x, ρ)
  | some (some (.own xs)) => some (.list xs, ρ.set i (some (.p (.list xs))))
  | _ => none := rfl
@[simp] theorem opV_p {ρ : EV} {i : Nat} : opV ρ i = match ρ[i]? with
  | some (some _) => some (.s i, ρ)
  | _ => none := rfl
@[simp] theorem take_p {ρ : EV} {i : Nat} : take ρ i = match ρ[i]? with
  | some (some (.p x)) => some (.p x, ρ)
  | some (some (.own xs)) => some (.own xs, ρ.set i none)
  | _ => none := rfl
@[simp] theorem rdO_s' (ρ : EV) (i : Nat) : rdO ρ (.s i) = match ρ[i]? with
  | some (some d) => some d.toP
  | _ => none := rfl
@[simp] theorem argD_s (ρ : EV) (i : Nat) : argD ρ (.s i) = match ρ[i]? with
  | some (some d) => some d
  | _ => none := rfl
@[simp] theorem rdOs_nil (ρ : EV) : rdOs ρ [] = some [] := rfl
@[simp] theorem rdOs_cons (ρ : EV) (o : Opd) (os : List Opd) : rdOs ρ (o :: os) = (rdO ρ o).bind fun x => (rdOs ρ os).map (x :: ·) := rfl
@[simp] theorem argDs_nil (ρ : EV) : argDs ρ [] = some [] := rfl
@[simp] theorem argDs_cons (ρ : EV) (o : Opd) (os : List Opd) : argDs ρ (o :: os) = (argD ρ o).bind fun x => (argDs ρ os).map (x :: ·) := rfl
@[simp] theorem lent_nil (ρ : EV) : lent ρ [] = [] := rfl
@[simp] theorem lent_v (ρ : EV) (x : PyData) (os : List Opd) : lent ρ (.v x :: os) = lent ρ os := rfl
@[simp] theorem lent_s (ρ : EV) (i : Nat) (os : List Opd) : lent ρ (.s i :: os) = match ρ[i]? with
    | some (some (.own _)) => i :: lent ρ os
    | _ => lent ρ os := rfl
@[simp] theorem nodupN_nil : nodupN [] = true := rfl
@[simp] theorem nodupN_cons (i : Nat) (is : List Nat) : nodupN (i :: is) = (!is.contains i && nodupN is) := rfl
@[simp] theorem backD_nil (ρ : EV) (ds : List D) : backD ρ [] ds = ρ := by cases ds <;> rfl
@[simp] theorem backD_v (ρ : EV) (x : PyData) (os : List Opd) (d : D) (ds : List D) : backD ρ (.v x :: os) (d :: ds) = backD ρ os ds := rfl
@[simp] theorem backD_s (ρ : EV) (i : Nat) (os : List Opd) (d : D) (ds : List D) : backD ρ (.s i :: os) (d :: ds) = match ρ[i]? with
    | some (some (.own _)) => (backD ρ os ds).set i (some d)
    | _ => backD ρ os ds := rfl
@[simp] theorem isOwn_ (ρ : EV) (i : Nat) : isOwn ρ i = match ρ[i]? with
  | some (some (.own _)) => true
  | _ => false := rfl
@[simp] theorem asg_nm (ρ : EV) (i : Nat) (x : PyData) : asgT ρ (.nm i) x = some (ρ.set i (some (.p x))) := rfl
@[simp] theorem asg_tp (ρ : EV) (is : List Nat) (xs : List PyData) : asgT ρ (.tp is) (.tuple xs) = asgNames ρ is xs := rfl
@[simp] theorem asgN_nil (ρ : EV) : asgNames ρ [] [] = some ρ := rfl
@[simp] theorem asgN_cons (ρ : EV) (i : Nat) (is : List Nat) (x : PyData) (xs : List PyData) : asgNames ρ (i :: is) (x :: xs) = asgNames (ρ.set i (some (.p x))) is xs := rfl
@[simp] theorem wipeV_nil (ρ : EV) : wipeV ρ [] = ρ := rfl
@[simp] theorem wipeV_cons (ρ : EV) (v : Nat) (vs : List Nat) : wipeV ρ (v :: vs) = (wipeV ρ vs).set v none := rfl
@[simp] theorem backV_nil (ρ0 ρ : EV) : backV ρ0 ρ [] = ρ := rfl
@[simp] theorem backV_cons (ρ0 ρ : EV) (v : Nat) (vs : List Nat) : backV ρ0 ρ (v :: vs) = match ρ0[v]? with
    | some o => (backV ρ0 ρ vs).set v o
    | none => backV ρ0 ρ vs := rfl
@[simp] theorem items_list (xs : List PyData) : itemsOf .seq [.list xs] = some xs := rfl
@[simp] theorem items_tuple (xs : List PyData) : itemsOf .seq [.tuple xs] = some xs := rfl
@[simp] theorem methV_ (m : Mth) (i : Nat) (a : EV → Option (List PyData × EV)) (ρ : EV) : methV m i a ρ = if isOwn ρ i = true then (a ρ).bind fun (ys, ρ1) => match ρ1[i]? with
    | some (some (.own xs)) => (mthS m xs ys).map fun (y, xs') => (.p y, ρ1.set i (some (.own xs')))
    | _ => none
  else none := rfl
@[simp] theorem fits_lit {n : Nat} : fits n = decide (n ≤ PySem.sizeLine) := rfl
@[simp] theorem sizeLine_val : PySem.sizeLine = 16777216 := PySem.sizeLine_eq

/-! ### comprehensions -/
theorem back_self : ∀ (ρ : EV) (vs : List Nat), backV ρ ρ vs = ρ
  | _, [] => rfl
  | ρ, v :: vs => by
    unfold backV
    rw [back_self ρ vs]
    cases h : ρ[v]? with
    | none => rfl
    | some o =>
      refine List.ext_getElem? fun j => ?_
      by_cases e : v = j
      · subst e
        rw [List.getElem?_set_self (List.getElem?_eq_some_iff.mp h).1, h]
      · rw [List.getElem?_set_ne e]
/-- a comprehension whose parts change nothing -/
theorem lcV_pure {tg : Tg} {it : It} {src : EV → Option (List PyData × EV)} {ifs : M} {elt : EV → Option (PyData × EV)} {own : List Nat} {ρ ρ1 : EV} {xs items : List PyData} (p : PyData → Bool) (g : PyData → PyData) (ρx : PyData → EV)
    (hsrc : src ρ = some (xs, ρ1)) (hit : itemsOf it xs = some items) (hlen : items.length ≤ 16777216)
    (h1 : ∀ x ∈ items, asgT (wipeV ρ1 own) tg x = some (ρx x)) (h2 : ∀ x ∈ items, tst1 ifs (ρx x) = some (p x, ρx x)) (h3 : ∀ x ∈ items, p x = true → elt (ρx x) = some (g x, ρx x))
    (h4 : ∀ x ∈ items, wipeV (ρx x) own = wipeV ρ1 own) (h5 : ∀ x ∈ items, backV ρ1 (ρx x) own = ρ1) : lcV tg it src ifs elt own ρ = some (.own ((items.filter p).map g), ρ1) := by
  have go : ∀ (l : List PyData) (acc : List PyData) (ρ0 : EV), (∀ x ∈ l, x ∈ items) → acc.length + l.length ≤ 16777216 → wipeV ρ0 own = wipeV ρ1 own → backV ρ1 ρ0 own = ρ1 →
      ∃ ρ2, lcL (fun ρ x => asgT ρ tg x) (tst1 ifs) elt (fun ρ => wipeV ρ own) l acc ρ0 = some (acc ++ (l.filter p).map g, ρ2) ∧ backV ρ1 ρ2 own = ρ1 := by
    intro l
    induction l with
    | nil => intro acc ρ0 _ _ _ hb; exact ⟨ρ0, by simp [lcL], hb⟩
    | cons x r ih =>
      intro acc ρ0 hm hl hw hb
      have hx := hm x List.mem_cons_self
      have hr := fun y hy => hm y (List.mem_cons_of_mem _ hy)
      rw [List.length_cons] at hl
      unfold lcL
      rw [hw, h1 x hx, Option.bind_some, h2 x hx, Option.bind_some]
      dsimp only
      cases hp : p x with
      | false =>
        obtain ⟨ρ2, e1, e2⟩ := ih acc (ρx x) hr (by omega) (h4 x hx) (h5 x hx)
        refine ⟨ρ2, ?_, e2⟩
        rw [if_neg Bool.false_ne_true, e1, List.filter_cons_of_neg (by rw [hp]; exact Bool.false_ne_true)]
      | true =>
        obtain ⟨ρ2, e1, e2⟩ := ih (acc ++ [g x]) (ρx x) hr (by rw [List.length_append, List.length_singleton]; omega) (h4 x hx) (h5 x hx)
        refine ⟨ρ2, ?_, e2⟩
        rw [if_pos rfl, h3 x hx hp, Option.bind_some]
        dsimp only
        rw [if_pos (decide_eq_true (by rw [sizeLine_val]; omega)), e1, List.filter_cons_of_pos hp, List.map_cons, List.append_assoc]
        rfl
  obtain ⟨ρ2, e1, e2⟩ := go items [] ρ1 (fun _ h => h) (by simpa using hlen) rfl (back_self _ _)
  unfold lcV
  rw [hsrc, Option.bind_some]
  dsimp only
  rw [hit, Option.bind_some, e1, Option.map_some]
  dsimp only
  rw [e2, List.nil_append]
/-- a comprehension by its invariant: acc so far, the slots -/
theorem lcV_inv {tg : Tg} {it : It} {src : EV → Option (List PyData × EV)} {ifs : M} {elt : EV → Option (PyData × EV)} {own : List Nat} {ρ ρ1 : EV} {xs items : List PyData} (Inv : Nat → List PyData → EV → Prop)
    (hsrc : src ρ = some (xs, ρ1)) (hit : itemsOf it xs = some items) (hlen : items.length ≤ 16777216) (h0 : Inv 0 [] ρ1) (hl : ∀ i acc ρ, Inv i acc ρ → acc.length ≤ i)
    (hs : ∀ i x acc ρ, items[i]? = some x → Inv i acc ρ → ∃ ρa b ρb, asgT (wipeV ρ own) tg x = some ρa ∧ tst1 ifs ρa = some (b, ρb) ∧ (b = false → Inv (i + 1) acc ρb) ∧ (b = true → ∃ y ρc, elt ρb = some (y, ρc) ∧ Inv (i + 1) (acc ++ [y]) ρc)) :
    ∃ acc ρ2, lcV tg it src ifs elt own ρ = some (.own acc, backV ρ1 ρ2 own) ∧ Inv items.length acc ρ2 := by
  have go : ∀ (n i : Nat) (acc : List PyData) (ρ0 : EV), items.length - i = n → i ≤ items.length → Inv i acc ρ0 → ∃ acc' ρ2, lcL (fun ρ x => asgT ρ tg x) (tst1 ifs) elt (fun ρ => wipeV ρ own) (items.drop i) acc ρ0 = some (acc', ρ2) ∧ Inv items.length acc' ρ2 := by
    intro n
    induction n with
    | zero =>
      intro i acc ρ0 hn hi h
      have e : i = items.length := by omega
      subst e
      rw [List.drop_length]
      exact ⟨acc, ρ0, rfl, h⟩
    | succ n ih =>
      intro i acc ρ0 hn hi h
      have hlt : i < items.length := by omega
      rw [List.drop_eq_getElem_cons hlt]
      obtain ⟨ρa, b, ρb, e1, e2, e3, e4⟩ := hs i items[i] acc ρ0 (by simp [hlt]) h
      unfold lcL
      rw [e1, Option.bind_some, e2, Option.bind_some]
      dsimp only
      cases b with
      | false =>
        rw [if_neg Bool.false_ne_true]
        exact ih (i + 1) acc ρb (by omega) (by omega) (e3 rfl)
      | true =>
        obtain ⟨y, ρc, e5, e6⟩ := e4 rfl
        rw [if_pos rfl, e5, Option.bind_some]
        dsimp only
        rw [if_pos (decide_eq_true (by rw [sizeLine_val]; have := hl i acc ρ0 h; omega))]
        exact ih (i + 1) (acc ++ [y]) ρc (by omega) (by omega) e6
  obtain ⟨acc, ρ2, e1, e2⟩ := go items.length 0 [] ρ1 (by omega) (by omega) h0
  rw [List.drop_zero] at e1
  refine ⟨acc, ρ2, ?_, e2⟩
  unfold lcV
  rw [hsrc, Option.bind_some]
  dsimp only
  rw [hit, Option.bind_some, e1, Option.map_some]
/-! ### loops -/
/-- a for that may return: it ends with the invariant, or it returns what R tells -/
theorem forL_inv {tgt : EV → PyData → Option EV} {body : EV → Option Out} {items : List PyData} {ρ : EV} (Inv : Nat → EV → Prop) (R : D → EV → Prop) (h0 : Inv 0 ρ)
    (hs : ∀ i x ρ, items[i]? = some x → Inv i ρ → ∃ ρa o, tgt ρ x = some ρa ∧ body ρa = some o ∧ match o with
      | .nx ρ' => Inv (i + 1) ρ'
      | .ct ρ' => Inv (i + 1) ρ'
      | .ret d ρ' => R d ρ'
      | .bk _ => False) : ∃ o, forL tgt body items ρ = some o ∧ ((∃ ρ', o = .nx ρ' ∧ Inv items.length ρ') ∨ ∃ d ρ', o = .ret d ρ' ∧ R d ρ') := by
  have go : ∀ (n i : Nat) (ρ0 : EV), items.length - i = n → i ≤ items.length → Inv i ρ0 → ∃ o, forL tgt body (items.drop i) ρ0 = some o ∧ ((∃ ρ', o = .nx ρ' ∧ Inv items.length ρ') ∨ ∃ d ρ', o = .ret d ρ' ∧ R d ρ') := by
    intro n
    induction n with
    | zero =>
      intro i ρ0 hn hi h
      have e : i = items.length := by omega
      subst e
      rw [List.drop_length]
      exact ⟨.nx ρ0, rfl, .inl ⟨ρ0, rfl, h⟩⟩
    | succ n ih =>
      intro i ρ0 hn hi h
      have hlt : i < items.length := by omega
      rw [List.drop_eq_getElem_cons hlt]
      obtain ⟨ρa, o, e1, e2, e3⟩ := hs i items[i] ρ0 (by simp [hlt]) h
      unfold forL
      rw [e1, Option.bind_some, e2, Option.bind_some]
      cases o with
      | nx ρ' => exact ih (i + 1) ρ' (by omega) (by omega) e3
      | ct ρ' => exact ih (i + 1) ρ' (by omega) (by omega) e3
      | ret d ρ' => exact ⟨_, rfl, .inr ⟨d, ρ', rfl, e3⟩⟩
      | bk ρ' => exact e3.elim
  obtain ⟨o, e1, e2⟩ := go items.length 0 ρ (by omega) (by omega) h0
  rw [List.drop_zero] at e1
  exact ⟨o, e1, e2⟩
/-- a for that goes through -/
theorem forL_all {tgt : EV → PyData → Option EV} {body : EV → Option Out} {items : List PyData} {ρ : EV} (Inv : Nat → EV → Prop) (h0 : Inv 0 ρ)
    (hs : ∀ i x ρ, items[i]? = some x → Inv i ρ → ∃ ρa ρ', tgt ρ x = some ρa ∧ body ρa = some (.nx ρ') ∧ Inv (i + 1) ρ') : ∃ ρ', forL tgt body items ρ = some (.nx ρ') ∧ Inv items.length ρ' := by
  obtain ⟨o, e1, e2⟩ := forL_inv (tgt := tgt) (body := body) (items := items) Inv (fun _ _ => False) h0 fun i x ρ hx h => by
    obtain ⟨ρa, ρ', q1, q2, q3⟩ := hs i x ρ hx h
    exact ⟨ρa, .nx ρ', q1, q2, q3⟩
  rcases e2 with ⟨ρ', rfl, h⟩ | ⟨_, _, _, h⟩
  · exact ⟨ρ', e1, h⟩
  · exact h.elim
/-! ### operations on what is known -/
@[simp] theorem b_add (i j : Int) : binS .add (.int i) (.int j) = some (.p (.int (i + j))) := rfl
@[simp] theorem b_sub (i j : Int) : binS .sub (.int i) (.int j) = some (.p (.int (i - j))) := rfl
@[simp] theorem b_mul (i j : Int) : binS .mul (.int i) (.int j) = if (inR i || inR j) = true then some (.p (.int (i * j))) else none := rfl
@[simp] theorem b_fdiv (i j : Int) : binS .fdiv (.int i) (.int j) = if okDiv j = true then some (.p (.int (i.fdiv j))) else none := rfl
@[simp] theorem b_mod (i j : Int) : binS .mod (.int i) (.int j) = if decide (j ≠ 0) = true then some (.p (.int (i.fmod j))) else none := rfl
@[simp] theorem b_pow (i j : Int) : binS .pow (.int i) (.int j) = if okPow i j = true then some (.p (.int (i ^ j.toNat))) else none := rfl
@[simp] theorem b_addT (xs ys : List PyData) : binS .add (.tuple xs) (.tuple ys) = if fits (xs.length + ys.length) = true then some (.p (.tuple (xs ++ ys))) else none := rfl
@[simp] theorem b_addL (xs ys : List PyData) : binS .add (.list xs) (.list ys) = if fits (xs.length + ys.length) = true then some (.own (xs ++ ys)) else none := rfl
@[simp] theorem c_lt (i j : Int) : cmpS .lt (.int i) (.int j) = some (decide (i < j)) := rfl
@[simp] theorem c_le (i j : Int) : cmpS .le (.int i) (.int j) = some (decide (i ≤ j)) := rfl
@[simp] theorem c_gt (i j : Int) : cmpS .gt (.int i) (.int j) = some (decide (j < i)) := rfl
@[simp] theorem c_ge (i j : Int) : cmpS .ge (.int i) (.int j) = some (decide (j ≤ i)) := rfl
@[simp] theorem c_eqI (i j : Int) : cmpS .eq (.int i) (.int j) = some (decide (i = j)) := rfl
@[simp] theorem c_eqB (i j : Bool) : cmpS .eq (.bool i) (.bool j) = some (decide (i = j)) := rfl
@[simp] theorem c_eqS (i j : Str) : cmpS .eq (.str i) (.str j) = some (decide (i = j)) := rfl
@[simp] theorem c_ne (x y : PyData) : cmpS .ne x y = (cmpS .eq x y).map (!·) := rfl
@[simp] theorem c_isN0 : cmpS .isN .none .none = some true := rfl
@[simp] theorem c_isNi (i : Int) : cmpS .isN (.int i) .none = some false := rfl
@[simp] theorem c_isNb (i : Bool) : cmpS .isN (.bool i) .none = some false := rfl
@[simp] theorem c_isNs (i : Str) : cmpS .isN (.str i) .none = some false := rfl
@[simp] theorem c_isNt (i : List PyData) : cmpS .isN (.tuple i) .none = some false := rfl
@[simp] theorem c_isNl (i : List PyData) : cmpS .isN (.list i) .none = some false := rfl
@[simp] theorem c_nN0 : cmpS .notN .none .none = some false := rfl
@[simp] theorem c_nNi (i : Int) : cmpS .notN (.int i) .none = some true := rfl
@[simp] theorem c_nNb (i : Bool) : cmpS .notN (.bool i) .none = some true := rfl
@[simp] theorem c_nNs (i : Str) : cmpS .notN (.str i) .none = some true := rfl
@[simp] theorem c_nNt (i : List PyData) : cmpS .notN (.tuple i) .none = some true := rfl
@[simp] theorem c_nNl (i : List PyData) : cmpS .notN (.list i) .none = some true := rfl
@[simp] theorem t_n : truthS .none = some false := rfl
@[simp] theorem t_b (b : Bool) : truthS (.bool b) = some b := rfl
@[simp] theorem t_i (i : Int) : truthS (.int i) = some (i != 0) := rfl
@[simp] theorem t_l (xs : List PyData) : truthS (.list xs) = some (!xs.isEmpty) := rfl
@[simp] theorem t_t (xs : List PyData) : truthS (.tuple xs) = some (!xs.isEmpty) := rfl
@[simp] theorem n_i (i : Int) : negS (.int i) = some (.p (.int (-i))) := rfl
@[simp] theorem x_l (xs : List PyData) (i : Int) : ixS (.list xs) (.int i) = L2.atI xs i := rfl
@[simp] theorem x_t (xs : List PyData) (i : Int) : ixS (.tuple xs) (.int i) = L2.atI xs i := rfl
theorem x_n {xs : List PyData} {i : Int} (h0 : 0 ≤ i) {x : PyData} (h : xs[i.toNat]? = some x) : L2.atI xs i = some x := by
  have hl := (List.getElem?_eq_some_iff.mp h).1
  unfold L2.atI L2.ixN
  rw [if_pos h0, if_pos (by omega)]
  simpa using h
@[simp] theorem x_0 (x : PyData) (xs : List PyData) : L2.atI (x :: xs) 0 = some x := x_n (by decide) rfl
@[simp] theorem x_1 (a b : PyData) (xs : List PyData) : L2.atI (a :: b :: xs) 1 = some b := x_n (by decide) rfl
@[simp] theorem x_2 (a b c : PyData) (xs : List PyData) : L2.atI (a :: b :: c :: xs) 2 = some c := x_n (by decide) rfl
@[simp] theorem x_3 (a b c d : PyData) (xs : List PyData) : L2.atI (a :: b :: c :: d :: xs) 3 = some d := x_n (by decide) rfl
@[simp] theorem l_list (xs : List PyData) : bltS .len [.list xs] = some (.p (.int xs.length)) := rfl
@[simp] theorem l_tuple (xs : List PyData) : bltS .len [.tuple xs] = some (.p (.int xs.length)) := rfl
@[simp] theorem l_tl (xs : List PyData) : bltS .tuple [.list xs] = some (.p (.tuple xs)) := rfl
@[simp] theorem l_tt (xs : List PyData) : bltS .tuple [.tuple xs] = some (.p (.tuple xs)) := rfl
@[simp] theorem l_ll (xs : List PyData) : bltS .list [.list xs] = some (.own xs) := rfl
@[simp] theorem l_lt (xs : List PyData) : bltS .list [.tuple xs] = some (.own xs) := rfl
@[simp] theorem l_abs (i : Int) : bltS .abs [.int i] = some (.p (.int (if i < 0 then -i else i))) := rfl
@[simp] theorem l_int (i : Int) : bltS .int [.int i] = some (.p (.int i)) := rfl
@[simp] theorem l_intb (b : Bool) : bltS .int [.bool b] = some (.p (.int (if b then 1 else 0))) := rfl
@[simp] theorem l_max (i j : Int) : bltS .max [.int i, .int j] = some (.p (.int (if j > i then j else i))) := rfl
@[simp] theorem l_min (i j : Int) : bltS .min [.int i, .int j] = some (.p (.int (if j < i then j else i))) := rfl
@[simp] theorem m_app (xs : List PyData) (y : PyData) : mthS .append xs [y] = if decide (xs.length < PySem.sizeLine) = true then some (.none, xs ++ [y]) else none := rfl
@[simp] theorem lk_nil (lk : List Nat) (i : Nat) : lkOk lk i [] = true := rfl
@[simp] theorem lk_p (lk : List Nat) (i : Nat) (x : PyData) (ds : List D) : lkOk lk i (.p x :: ds) = lkOk lk (i + 1) ds := rfl
@[simp] theorem lk_own (lk : List Nat) (i : Nat) (x : List PyData) (ds : List D) : lkOk lk i (.own x :: ds) = (lk.contains i && lkOk lk (i + 1) ds) := rfl
@[simp] theorem out_ret (np : Nat) (ds : List D) (d : D) (ρ : EV) : outS np ds (some (.ret d ρ)) = (outS.mapOuts np ds ρ).map fun r => (d, r) := rfl
@[simp] theorem out_nx (np : Nat) (ds : List D) (ρ : EV) : outS np ds (some (.nx ρ)) = (outS.mapOuts np ds ρ).map fun r => (.p .none, r) := rfl
@[simp] theorem mo_nil (n : Nat) (ρ : EV) : outS.mapOuts n [] ρ = some [] := by cases n <;> rfl
@[simp] theorem mo_p (n : Nat) (x : PyData) (ds : List D) (o : Option D) (ρ : EV) : outS.mapOuts (n + 1) (.p x :: ds) (o :: ρ) = (outS.mapOuts n ds ρ).map (.p x :: ·) := rfl
@[simp] theorem mo_own (n : Nat) (x : List PyData) (ds : List D) (e : D) (ρ : EV) : outS.mapOuts (n + 1) (.own x :: ds) (some e :: ρ) = (outS.mapOuts n ds ρ).map (e :: ·) := rfl
end Pv

set_option Elab.async false
set_option linter.all false
set_option maxRecDepth 100000
set_option maxHeartbeats 8000000
namespace K93
open PySem PySem.Spec PyProof.Rows L2 Pv
def top (i : Nat) : Stmt := PySem.Challenge.pw_sealedlink_k93_links_and_the_worst_wait.main.body.getD i (.Pass ⟨0, 0, 0, 0⟩)
def G : List (Str × PyData) := [("DELAY", .int 2), ("EVERY", .int 3), ("ROOM", .int 4), ("DROPS", .int 5), ("DOUBLES", .int 6), ("LATES", .int 7)]
/-- hand(link, state, now): 0 link, 1 state, 2 now, 3 place, 4 last, 5 waiting, 6 time, 7 leaves, 8 arrival -/
def b_hand : S := (.seq (.unp [3, 4, 5] (.var 1)) (.seq (.set 5 (.blt .tuple (.cons (.lc (.nm 6) .seq (.cons (.var 5) .nil) (.cmp .gt (.var 6) (.var 2)) (.var 6) [("time", 6)]) .nil))) (.seq (.ite (.orE (.cmp .isin (.var 3) (.ix (.var 0) (.glob 3))) (.call 1 (.cons (.var 0) (.cons (.var 5) .nil)))) (.seq (.ret (.tup (.cons (.tup (.cons (.bin .add (.var 3) (.con (.int 1))) (.cons (.var 4) (.cons (.var 5) .nil)))) (.cons (.tup .nil) .nil)))) .done) .done) (.seq (.set 7 (.call 2 (.cons (.var 0) (.cons (.var 4) (.cons (.var 2) .nil))))) (.seq (.ite (.cmp .gt (.var 7) (.var 2)) (.seq (.set 5 (.bin .add (.var 5) (.tup (.cons (.var 7) .nil)))) .done) .done) (.seq (.set 8 (.bin .add (.bin .add (.var 7) (.ix (.var 0) (.glob 0))) (.call 3 (.cons (.var 0) (.cons (.var 3) .nil))))) (.seq (.ite (.cmp .isin (.var 3) (.ix (.var 0) (.glob 4))) (.seq (.ret (.tup (.cons (.tup (.cons (.bin .add (.var 3) (.con (.int 1))) (.cons (.var 7) (.cons (.var 5) .nil)))) (.cons (.tup (.cons (.var 8) (.cons (.var 8) .nil))) .nil)))) .done) .done) (.seq (.ret (.tup (.cons (.tup (.cons (.bin .add (.var 3) (.con (.int 1))) (.cons (.var 7) (.cons (.var 5) .nil)))) (.cons (.tup (.cons (.var 8) .nil)) .nil)))) .done))))))))
def d_hand : DI := ⟨"hand", ["link", "state", "now", "place", "last", "waiting", "time", "leaves", "arrival"], ["link", "state", "now"], top 7, ⟨3, 9, [0, 1, 2], b_hand⟩⟩
/-- is_full(link, waiting): 0 link, 1 waiting -/
def b_is_full : S := (.seq (.ret (.andE (.cmp .ne (.ix (.var 0) (.glob 1)) (.con (.int 0))) (.cmp .ge (.blt .len (.cons (.var 1) .nil)) (.ix (.var 0) (.glob 2))))) .done)
def d_is_full : DI := ⟨"is_full", ["link", "waiting"], ["link", "waiting"], top 8, ⟨2, 2, [0, 1], b_is_full⟩⟩
/-- leaving(link, last, now): 0 link, 1 last, 2 now -/
def b_leaving : S := (.seq (.ite (.orE (.cmp .eq (.ix (.var 0) (.glob 1)) (.con (.int 0))) (.cmp .isN (.var 1) (.con .none))) (.seq (.ret (.var 2)) .done) .done) (.seq (.ret (.blt .max (.cons (.var 2) (.cons (.bin .add (.var 1) (.ix (.var 0) (.glob 1))) .nil)))) .done))
def d_leaving : DI := ⟨"leaving", ["link", "last", "now"], ["link", "last", "now"], top 9, ⟨3, 3, [0, 1, 2], b_leaving⟩⟩
/-- more_for(link, place): 0 link, 1 place, 2 late, 3 more -/
def b_more_for : S := (.seq (.for_ (.tp [2, 3]) .seq (.cons (.ix (.var 0) (.glob 5)) .nil) (.seq (.ite (.cmp .eq (.var 2) (.var 1)) (.seq (.ret (.mov 3)) .done) .done) .done)) (.seq (.ret (.con (.int 0))) .done))
def d_more_for : DI := ⟨"more_for", ["link", "place", "late", "more"], ["link", "place"], top 10, ⟨2, 4, [0, 1], b_more_for⟩⟩
/-- worst(link): 0 link -/
def b_worst : S := (.seq (.ret (.bin .add (.ix (.var 0) (.glob 0)) (.bin .mul (.ix (.var 0) (.glob 1)) (.ix (.var 0) (.glob 2))))) .done)
def d_worst : DI := ⟨"worst", ["link"], ["link"], top 11, ⟨1, 1, [0], b_worst⟩⟩
/-- _law_tape(script): 0 script, 1 total, 2 cell -/
def b__law_tape : S := (.seq (.set 1 (.con (.int 7))) (.seq (.for_ (.nm 2) .seq (.cons (.var 0) .nil) (.seq (.set 1 (.bin .mod (.blt .int (.cons (.bin .add (.bin .mul (.var 1) (.con (.int 31))) (.blt .abs (.cons (.blt .int (.cons (.var 2) .nil)) .nil))) .nil)) (.con (.int 2147483647)))) .done)) (.seq (.ret (.lst (.cons (.blt .list (.cons (.var 0) .nil)) (.cons (.con (.int 0)) (.cons (.con (.int 0)) (.cons (.var 1) .nil)))))) .done)))
def d__law_tape : DI := ⟨"_law_tape", ["script", "total", "cell"], ["script"], top 13, ⟨1, 3, [0], b__law_tape⟩⟩
/-- _law_draw(tape, many): 0 tape, 1 many, 2 place, 3 number -/
def b__law_draw : S := (.seq (.ite (.cmp .eq (.ix (.var 0) (.con (.int 2))) (.con (.int 0))) (.seq (.set 2 (.ix (.var 0) (.con (.int 1)))) (.seq (.set 3 (.con (.int 0))) (.seq (.ite (.cmp .lt (.var 2) (.blt .len (.cons (.ix (.var 0) (.con (.int 0))) .nil))) (.seq (.set 3 (.blt .abs (.cons (.blt .int (.cons (.ix (.ix (.var 0) (.con (.int 0))) (.var 2)) .nil)) .nil))) .done) (.seq (.stx 0 (.con (.int 3)) (.bin .mod (.blt .int (.cons (.bin .add (.bin .add (.bin .mul (.ix (.var 0) (.con (.int 3))) (.con (.int 48271))) (.var 2)) (.con (.int 1))) .nil)) (.con (.int 2147483647)))) (.seq (.set 3 (.ix (.var 0) (.con (.int 3)))) .done))) (.seq (.stx 0 (.con (.int 1)) (.bin .add (.var 2) (.con (.int 1)))) (.seq (.ite (.cmp .lt (.var 3) (.bin .pow (.con (.int 10)) (.con (.int 18)))) (.seq (.set 3 (.bin .mod (.blt .int (.cons (.bin .add (.bin .add (.bin .mul (.var 3) (.con (.int 48271))) (.bin .mul (.var 2) (.con (.int 69621)))) (.con (.int 5))) .nil)) (.con (.int 2147483647)))) (.seq (.set 3 (.bin .mod (.blt .int (.cons (.bin .mul (.var 3) (.con (.int 69621))) .nil)) (.con (.int 2147483629)))) (.seq (.ret (.bin .mod (.blt .int (.cons (.var 3) .nil)) (.blt .max (.cons (.var 1) (.cons (.con (.int 1)) .nil))))) .done))) .done) (.seq (.stx 0 (.con (.int 2)) (.var 3)) .done)))))) .done) (.seq (.set 3 (.ix (.var 0) (.con (.int 2)))) (.seq (.stx 0 (.con (.int 2)) (.bin .fdiv (.var 3) (.blt .max (.cons (.var 1) (.cons (.con (.int 2)) .nil))))) (.seq (.ret (.bin .mod (.blt .int (.cons (.var 3) .nil)) (.blt .max (.cons (.var 1) (.cons (.con (.int 1)) .nil))))) .done))))
def d__law_draw : DI := ⟨"_law_draw", ["tape", "many", "place", "number"], ["tape", "many"], top 14, ⟨2, 4, [0, 1], b__law_draw⟩⟩
/-- _law_pick(tape, rows): 0 tape, 1 rows -/
def b__law_pick : S := (.seq (.ret (.ix (.var 1) (.call 6 (.cons (.var 0) (.cons (.blt .len (.cons (.var 1) .nil)) .nil))))) .done)
def d__law_pick : DI := ⟨"_law_pick", ["tape", "rows"], ["tape", "rows"], top 15, ⟨2, 2, [0, 1], b__law_pick⟩⟩
/-- _law_turns(tape, many): 0 tape, 1 many, 2 left, 3 turns, 4 k -/
def b__law_turns : S := (.seq (.set 2 (.lrg1 (.var 1))) (.seq (.set 3 (.lst .nil)) (.seq (.for_ (.nm 4) .rng1 (.cons (.var 1) .nil) (.seq (.exp (.meth .append 3 (.cons (.meth .popAt 2 (.cons (.call 6 (.cons (.var 0) (.cons (.blt .len (.cons (.var 2) .nil)) .nil))) .nil)) .nil))) .done)) (.seq (.ret (.sl (.var 3) .nil (.ix (.lst (.cons (.var 1) (.cons (.var 1) (.cons (.con (.int 1)) .nil)))) (.call 6 (.cons (.var 0) (.cons (.con (.int 3)) .nil)))))) .done))))
def d__law_turns : DI := ⟨"_law_turns", ["tape", "many", "left", "turns", "k"], ["tape", "many"], top 16, ⟨2, 5, [0, 1], b__law_turns⟩⟩
/-- _law_same(told, wanted): 0 told, 1 wanted, 2 k -/
def b__law_same : S := (.seq (.ite (.isi .tuple (.var 1)) (.seq (.ite (.orE (.nt (.isi .tuple (.var 0))) (.cmp .ne (.blt .len (.cons (.var 0) .nil)) (.blt .len (.cons (.var 1) .nil)))) (.seq (.ret (.con (.bool false))) .done) .done) (.seq (.ret (.cmp .notin (.con (.bool false)) (.lc (.nm 2) .rng1 (.cons (.blt .len (.cons (.var 1) .nil)) .nil) .nil (.call 9 (.cons (.ix (.var 0) (.var 2)) (.cons (.ix (.var 1) (.var 2)) .nil))) [("k", 2)]))) .done)) .done) (.seq (.ite (.orE (.cmp .isN (.var 1) (.con .none)) (.cmp .isN (.var 0) (.con .none))) (.seq (.ret (.andE (.cmp .isN (.var 1) (.con .none)) (.cmp .isN (.var 0) (.con .none)))) .done) .done) (.seq (.ite (.orE (.cmp .ne (.isi .bool (.var 0)) (.isi .bool (.var 1))) (.cmp .ne (.isi .str (.var 0)) (.isi .str (.var 1)))) (.seq (.ret (.con (.bool false))) .done) .done) (.seq (.ret (.andE (.cmp .eq (.isi .int (.var 0)) (.isi .int (.var 1))) (.cmp .eq (.var 0) (.var 1)))) .done))))
def d__law_same : DI := ⟨"_law_same", ["told", "wanted", "k"], ["told", "wanted"], top 17, ⟨2, 3, [0, 1], b__law_same⟩⟩
/-- _law_order(tape, rows): 0 tape, 1 rows, 2 left, 3 out, 4 k -/
def b__law_order : S := (.seq (.set 2 (.blt .list (.cons (.var 1) .nil))) (.seq (.set 3 (.lst .nil)) (.seq (.for_ (.nm 4) .rng1 (.cons (.blt .len (.cons (.var 1) .nil)) .nil) (.seq (.exp (.meth .append 3 (.cons (.meth .popAt 2 (.cons (.call 6 (.cons (.var 0) (.cons (.blt .len (.cons (.var 2) .nil)) .nil))) .nil)) .nil))) .done)) (.seq (.ret (.mov 3)) .done))))
def d__law_order : DI := ⟨"_law_order", ["tape", "rows", "left", "out", "k"], ["tape", "rows"], top 18, ⟨2, 5, [0, 1], b__law_order⟩⟩
/-- _law_handed(link, state, now): 0 link, 1 state, 2 now, 3 place, 4 last, 5 waiting, 6 left, 7 time, 8 leaves, 9 arrives, 10 row, 11 k -/
def b__law_handed : S := (.seq (.unp [3, 4, 5] (.var 1)) (.seq (.set 6 (.lc (.nm 7) .seq (.cons (.var 5) .nil) (.cmp .gt (.var 7) (.var 2)) (.var 7) [("time", 7)])) (.seq (.ite (.orE (.cmp .isin (.var 3) (.ix (.var 0) (.con (.int 5)))) (.andE (.cmp .gt (.ix (.var 0) (.con (.int 3))) (.con (.int 0))) (.cmp .ge (.blt .len (.cons (.var 6) .nil)) (.ix (.var 0) (.con (.int 4)))))) (.seq (.ret (.tup (.cons (.tup (.cons (.bin .add (.var 3) (.con (.int 1))) (.cons (.var 4) (.cons (.blt .tuple (.cons (.var 6) .nil)) .nil)))) (.cons (.tup .nil) .nil)))) .done) .done) (.seq (.set 8 (.var 2)) (.seq (.ite (.andE (.cmp .gt (.ix (.var 0) (.con (.int 3))) (.con (.int 0))) (.cmp .notN (.var 4) (.con .none))) (.seq (.set 8 (.blt .max (.cons (.var 2) (.cons (.bin .add (.var 4) (.ix (.var 0) (.con (.int 3)))) .nil)))) .done) .done) (.seq (.ite (.cmp .gt (.var 8) (.var 2)) (.seq (.exp (.meth .append 6 (.cons (.var 8) .nil))) .done) .done) (.seq (.set 9 (.bin .add (.bin .add (.var 8) (.ix (.var 0) (.con (.int 2)))) (.blt .sum (.cons (.lc (.nm 10) .seq (.cons (.ix (.var 0) (.con (.int 7))) .nil) (.cmp .eq (.ix (.var 10) (.con (.int 0))) (.var 3)) (.ix (.var 10) (.con (.int 1))) [("row", 10)]) .nil)))) (.seq (.ret (.tup (.cons (.tup (.cons (.bin .add (.var 3) (.con (.int 1))) (.cons (.var 8) (.cons (.blt .tuple (.cons (.var 6) .nil)) .nil)))) (.cons (.blt .tuple (.cons (.lc (.nm 11) .rng1 (.cons (.bin .add (.con (.int 1)) (.blt .int (.cons (.cmp .isin (.var 3) (.ix (.var 0) (.con (.int 6)))) .nil))) .nil) .nil (.var 9) [("k", 11)]) .nil)) .nil)))) .done))))))))
def d__law_handed : DI := ⟨"_law_handed", ["link", "state", "now", "place", "last", "waiting", "left", "time", "leaves", "arrives", "row", "k"], ["link", "state", "now"], top 19, ⟨3, 12, [0, 1, 2], b__law_handed⟩⟩
/-- _law_places(tape): 0 tape, 1 most, 2 place, 3 places, 4 k -/
def b__law_places : S := (.seq (.set 1 (.call 7 (.cons (.var 0) (.cons (.lst (.cons (.con (.int 1)) (.cons (.con (.int 1)) (.cons (.con (.int 2)) (.cons (.con (.int 4)) (.cons (.con (.int 12)) .nil)))))) .nil)))) (.seq (.set 2 (.bin .sub (.call 6 (.cons (.var 0) (.cons (.con (.int 4)) .nil))) (.con (.int 1)))) (.seq (.set 3 (.lst .nil)) (.seq (.for_ (.nm 4) .rng1 (.cons (.call 7 (.cons (.var 0) (.cons (.lst (.cons (.con (.int 0)) (.cons (.con (.int 0)) (.cons (.con (.int 1)) (.cons (.con (.int 2)) (.cons (.con (.int 5)) (.cons (.con (.int 20)) .nil))))))) .nil))) .nil) (.seq (.set 2 (.bin .add (.bin .add (.var 2) (.con (.int 1))) (.call 6 (.cons (.var 0) (.cons (.var 1) .nil))))) (.seq (.exp (.meth .append 3 (.cons (.var 2) .nil))) .done))) (.seq (.ret (.blt .tuple (.cons (.var 3) .nil))) .done)))))
def d__law_places : DI := ⟨"_law_places", ["tape", "most", "place", "places", "k"], ["tape"], top 20, ⟨1, 5, [0], b__law_places⟩⟩
/-- _law_lates(tape): 0 tape, 1 places, 2 place -/
def b__law_lates : S := (.seq (.set 1 (.call 12 (.cons (.var 0) .nil))) (.seq (.ret (.blt .tuple (.cons (.lc (.nm 2) .seq (.cons (.var 1) .nil) .nil (.tup (.cons (.var 2) (.cons (.call 7 (.cons (.var 0) (.cons (.lst (.cons (.con (.int 1)) (.cons (.con (.int 2)) (.cons (.con (.int 9)) (.cons (.con (.int 10000)) (.cons (.bin .add (.con (.int 1)) (.call 6 (.cons (.var 0) (.cons (.con (.int 10000)) .nil)))) .nil)))))) .nil))) .nil))) [("place", 2)]) .nil))) .done))
def d__law_lates : DI := ⟨"_law_lates", ["tape", "places", "place"], ["tape"], top 21, ⟨1, 3, [0], b__law_lates⟩⟩
/-- _law_link(tape): 0 tape, 1 every, 2 room, 3 slow, 4 ends -/
def b__law_link : S := (.seq (.set 1 (.call 7 (.cons (.var 0) (.cons (.lst (.cons (.con (.int 0)) (.cons (.con (.int 1)) (.cons (.con (.int 2)) (.cons (.con (.int 3)) (.cons (.con (.int 7)) (.cons (.con (.int 50)) (.cons (.con (.int 1000)) (.cons (.bin .add (.con (.int 1)) (.call 6 (.cons (.var 0) (.cons (.con (.int 1000)) .nil)))) .nil))))))))) .nil)))) (.seq (.set 2 (.con (.int 0))) (.seq (.ite (.cmp .gt (.var 1) (.con (.int 0))) (.seq (.set 2 (.call 7 (.cons (.var 0) (.cons (.lst (.cons (.con (.int 1)) (.cons (.con (.int 1)) (.cons (.con (.int 2)) (.cons (.con (.int 3)) (.cons (.con (.int 5)) (.cons (.con (.int 19)) (.cons (.con (.int 20)) (.cons (.bin .add (.con (.int 1)) (.call 6 (.cons (.var 0) (.cons (.con (.int 20)) .nil)))) .nil))))))))) .nil)))) .done) .done) (.seq (.set 3 (.call 7 (.cons (.var 0) (.cons (.lst (.cons (.con (.int 1)) (.cons (.con (.int 2)) (.cons (.con (.int 5)) (.cons (.con (.int 30)) (.cons (.con (.int 10000)) (.cons (.bin .add (.con (.int 1)) (.call 6 (.cons (.var 0) (.cons (.con (.int 10000)) .nil)))) .nil))))))) .nil)))) (.seq (.set 4 (.tup (.cons (.call 6 (.cons (.var 0) (.cons (.con (.int 100)) .nil))) (.cons (.call 6 (.cons (.var 0) (.cons (.con (.int 100)) .nil))) .nil)))) (.seq (.ret (.bin .add (.var 4) (.tup (.cons (.var 3) (.cons (.var 1) (.cons (.var 2) (.cons (.call 12 (.cons (.var 0) .nil)) (.cons (.call 12 (.cons (.var 0) .nil)) (.cons (.call 13 (.cons (.var 0) .nil)) .nil))))))))) .done))))))
def d__law_link : DI := ⟨"_law_link", ["tape", "every", "room", "slow", "ends"], ["tape"], top 22, ⟨1, 5, [0], b__law_link⟩⟩
/-- _law_bent_link(tape, link): 0 tape, 1 link, 2 choice -/
def b__law_bent_link : S := (.seq (.set 2 (.call 6 (.cons (.var 0) (.cons (.con (.int 5)) .nil)))) (.seq (.ite (.cmp .eq (.var 2) (.con (.int 0))) (.seq (.ret (.bin .add (.bin .add (.sl (.var 1) .nil (.con (.int 2))) (.tup (.cons (.call 7 (.cons (.var 0) (.cons (.lst (.cons (.con (.int 1)) (.cons (.con (.int 10000)) (.cons (.bin .add (.bin .fdiv (.ix (.var 1) (.con (.int 2))) (.con (.int 2))) (.con (.int 1))) .nil)))) .nil))) .nil))) (.sl (.var 1) (.con (.int 3)) .nil))) .done) .done) (.seq (.ite (.andE (.cmp .eq (.var 2) (.con (.int 1))) (.andE (.cmp .lt (.con (.int 0)) (.ix (.var 1) (.con (.int 4)))) (.cmp .lt (.ix (.var 1) (.con (.int 4))) (.con (.int 20))))) (.seq (.ret (.bin .add (.bin .add (.sl (.var 1) .nil (.con (.int 4))) (.tup (.cons (.bin .add (.ix (.var 1) (.con (.int 4))) (.con (.int 1))) .nil))) (.sl (.var 1) (.con (.int 5)) .nil))) .done) .done) (.seq (.ite (.cmp .eq (.var 2) (.con (.int 2))) (.seq (.ret (.bin .add (.bin .add (.sl (.var 1) .nil (.con (.int 6))) (.tup (.cons (.call 12 (.cons (.var 0) .nil)) .nil))) (.sl (.var 1) (.con (.int 7)) .nil))) .done) .done) (.seq (.ite (.cmp .eq (.var 2) (.con (.int 3))) (.seq (.ret (.bin .add (.sl (.var 1) .nil (.con (.int 7))) (.tup (.cons (.call 13 (.cons (.var 0) .nil)) .nil)))) .done) .done) (.seq (.ret (.bin .add (.bin .add (.sl (.var 1) .nil (.con (.int 5))) (.tup (.cons (.call 12 (.cons (.var 0) .nil)) .nil))) (.sl (.var 1) (.con (.int 6)) .nil))) .done))))))
def d__law_bent_link : DI := ⟨"_law_bent_link", ["tape", "link", "choice"], ["tape", "link"], top 23, ⟨2, 3, [0, 1], b__law_bent_link⟩⟩
/-- _law_later(tape, link, state, now): 0 tape, 1 link, 2 state, 3 now, 4 times -/
def b__law_later : S := (.seq (.set 4 (.lst (.cons (.var 3) (.cons (.var 3) (.cons (.bin .add (.var 3) (.con (.int 1))) (.cons (.bin .add (.var 3) (.call 6 (.cons (.var 0) (.cons (.bin .add (.ix (.var 1) (.con (.int 3))) (.con (.int 2))) .nil)))) (.cons (.bin .add (.var 3) (.call 6 (.cons (.var 0) (.cons (.con (.int 20000)) .nil)))) .nil))))))) (.seq (.ite (.cmp .gt (.blt .len (.cons (.ix (.var 2) (.con (.int 2))) .nil)) (.con (.int 0))) (.seq (.exp (.meth .append 4 (.cons (.bin .sub (.bin .add (.call 7 (.cons (.var 0) (.cons (.blt .list (.cons (.ix (.var 2) (.con (.int 2))) .nil)) .nil))) (.call 6 (.cons (.var 0) (.cons (.con (.int 3)) .nil)))) (.con (.int 1))) .nil))) .done) .done) (.seq (.ite (.cmp .notN (.ix (.var 2) (.con (.int 1))) (.con .none)) (.seq (.exp (.meth .append 4 (.cons (.bin .sub (.bin .add (.bin .add (.ix (.var 2) (.con (.int 1))) (.ix (.var 1) (.con (.int 3)))) (.call 6 (.cons (.var 0) (.cons (.con (.int 3)) .nil)))) (.con (.int 1))) .nil))) .done) .done) (.seq (.ret (.blt .min (.cons (.blt .max (.cons (.var 3) (.cons (.call 7 (.cons (.var 0) (.cons (.var 4) .nil))) .nil))) (.cons (.con (.int 1000000)) .nil)))) .done))))
def d__law_later : DI := ⟨"_law_later", ["tape", "link", "state", "now", "times"], ["tape", "link", "state", "now"], top 24, ⟨4, 5, [0, 1, 2, 3], b__law_later⟩⟩
/-- _law_run(tape, link, many): 0 tape, 1 link, 2 many, 3 state, 4 now, 5 rows, 6 k -/
def b__law_run : S := (.seq (.set 3 (.tup (.cons (.con (.int 0)) (.cons (.con .none) (.cons (.tup .nil) .nil))))) (.seq (.set 4 (.call 6 (.cons (.var 0) (.cons (.con (.int 100000)) .nil)))) (.seq (.set 5 (.lst .nil)) (.seq (.for_ (.nm 6) .rng1 (.cons (.var 2) .nil) (.seq (.exp (.meth .append 5 (.cons (.tup (.cons (.var 1) (.cons (.var 3) (.cons (.var 4) .nil)))) .nil))) (.seq (.set 3 (.ix (.call 11 (.cons (.var 1) (.cons (.var 3) (.cons (.var 4) .nil)))) (.con (.int 0)))) (.seq (.set 4 (.call 16 (.cons (.var 0) (.cons (.var 1) (.cons (.var 3) (.cons (.var 4) .nil)))))) .done)))) (.seq (.ret (.mov 5)) .done)))))
def d__law_run : DI := ⟨"_law_run", ["tape", "link", "many", "state", "now", "rows", "k"], ["tape", "link", "many"], top 25, ⟨3, 7, [0, 1, 2], b__law_run⟩⟩
/-- _law_reached(tape, link): 0 tape, 1 link, 2 bare, 3 state, 4 now, 5 k, 6 told, 7 wanted -/
def b__law_reached : S := (.seq (.set 2 (.bin .add (.sl (.var 1) .nil (.con (.int 5))) (.tup (.cons (.tup .nil) (.cons (.tup .nil) (.cons (.tup .nil) .nil)))))) (.seq (.set 3 (.tup (.cons (.con (.int 0)) (.cons (.con .none) (.cons (.tup .nil) .nil))))) (.seq (.set 4 (.call 6 (.cons (.var 0) (.cons (.con (.int 100000)) .nil)))) (.seq (.ite (.cmp .eq (.call 6 (.cons (.var 0) (.cons (.con (.int 2)) .nil))) (.con (.int 0))) (.seq (.set 3 (.tup (.cons (.call 6 (.cons (.var 0) (.cons (.con (.int 1000)) .nil))) (.cons (.var 4) (.cons (.tup .nil) .nil))))) (.seq (.set 4 (.bin .add (.bin .add (.var 4) (.ix (.var 1) (.con (.int 3)))) (.call 6 (.cons (.var 0) (.cons (.con (.int 3)) .nil))))) .done)) .done) (.seq (.for_ (.nm 5) .rng1 (.cons (.bin .add (.ix (.var 1) (.con (.int 4))) (.con (.int 1))) .nil) (.seq (.set 6 (.call 0 (.cons (.var 2) (.cons (.var 3) (.cons (.var 4) .nil))))) (.seq (.set 7 (.call 11 (.cons (.var 2) (.cons (.var 3) (.cons (.var 4) .nil))))) (.seq (.ite (.nt (.call 9 (.cons (.var 6) (.cons (.var 7) .nil)))) (.seq (.ret (.con (.bool false))) .done) .done) (.seq (.set 3 (.ix (.var 7) (.con (.int 0)))) .done))))) (.seq (.ite (.andE (.cmp .gt (.ix (.var 1) (.con (.int 3))) (.con (.int 0))) (.cmp .ne (.bin .sub (.ix (.ix (.var 6) (.con (.int 1))) (.con (.int 0))) (.var 4)) (.call 4 (.cons (.var 2) .nil)))) (.seq (.ret (.con (.bool false))) .done) .done) (.seq (.ret (.call 9 (.cons (.ix (.call 0 (.cons (.var 2) (.cons (.var 3) (.cons (.var 4) .nil)))) (.con (.int 1))) (.cons (.ix (.call 11 (.cons (.var 2) (.cons (.var 3) (.cons (.var 4) .nil)))) (.con (.int 1))) .nil)))) .done)))))))
def d__law_reached : DI := ⟨"_law_reached", ["tape", "link", "bare", "state", "now", "k", "told", "wanted"], ["tape", "link"], top 26, ⟨2, 8, [0, 1], b__law_reached⟩⟩
/-- law(script): 0 script, 1 tape, 2 link, 3 bent, 4 rows, 5 twins, 6 row, 7 asked, 8 door -/
def b_law : S := (.seq (.set 1 (.call 5 (.cons (.var 0) .nil))) (.seq (.set 2 (.call 14 (.cons (.var 1) .nil))) (.seq (.set 3 (.call 15 (.cons (.var 1) (.cons (.var 2) .nil)))) (.seq (.set 4 (.call 17 (.cons (.var 1) (.cons (.var 2) (.cons (.call 7 (.cons (.var 1) (.cons (.lst (.cons (.con (.int 12)) (.cons (.con (.int 16)) (.cons (.con (.int 24)) (.cons (.con (.int 40)) .nil))))) .nil))) .nil))))) (.seq (.set 5 (.lc (.nm 6) .seq (.cons (.sl (.var 4) (.call 6 (.cons (.var 1) (.cons (.con (.int 12)) .nil))) .nil) .nil) .nil (.tup (.cons (.var 3) (.cons (.ix (.var 6) (.con (.int 1))) (.cons (.ix (.var 6) (.con (.int 2))) .nil)))) [("row", 6)])) (.seq (.set 7 (.call 10 (.cons (.var 1) (.cons (.bin .add (.var 4) (.sl (.var 5) .nil (.con (.int 12)))) .nil)))) (.seq (.for_ (.nm 8) .seq (.cons (.call 8 (.cons (.var 1) (.cons (.con (.int 3)) .nil))) .nil) (.seq (.ite (.cmp .eq (.var 8) (.con (.int 0))) (.seq (.for_ (.nm 6) .seq (.cons (.bin .add (.var 7) (.sl (.var 7) .nil (.con (.int 1)))) .nil) (.seq (.ite (.nt (.call 9 (.cons (.call 0 (.cons (.ix (.var 6) (.con (.int 0))) (.cons (.ix (.var 6) (.con (.int 1))) (.cons (.ix (.var 6) (.con (.int 2))) .nil)))) (.cons (.call 11 (.cons (.ix (.var 6) (.con (.int 0))) (.cons (.ix (.var 6) (.con (.int 1))) (.cons (.ix (.var 6) (.con (.int 2))) .nil)))) .nil)))) (.seq (.ret (.con (.bool false))) .done) .done) .done)) .done) .done) (.seq (.ite (.cmp .eq (.var 8) (.con (.int 1))) (.seq (.for_ (.nm 6) .seq (.cons (.lst (.cons (.var 2) (.cons (.var 3) (.cons (.var 2) .nil)))) .nil) (.seq (.ite (.nt (.call 9 (.cons (.call 4 (.cons (.var 6) .nil)) (.cons (.bin .add (.ix (.var 6) (.con (.int 2))) (.bin .mul (.ix (.var 6) (.con (.int 3))) (.ix (.var 6) (.con (.int 4))))) .nil)))) (.seq (.ret (.con (.bool false))) .done) .done) .done)) .done) .done) (.seq (.ite (.andE (.cmp .eq (.var 8) (.con (.int 2))) (.nt (.call 18 (.cons (.var 1) (.cons (.var 2) .nil))))) (.seq (.ret (.con (.bool false))) .done) .done) .done)))) (.seq (.ret (.con (.bool true))) .done))))))))
def d_law : DI := ⟨"law", ["script", "tape", "link", "bent", "rows", "twins", "row", "asked", "door"], ["script"], top 27, ⟨1, 9, [0], b_law⟩⟩
def ds : List DI := [d_hand, d_is_full, d_leaving, d_more_for, d_worst, d__law_tape, d__law_draw, d__law_pick, d__law_turns, d__law_same, d__law_order, d__law_handed, d__law_places, d__law_lates, d__law_link, d__law_bent_link, d__law_later, d__law_run, d__law_reached, d_law]
theorem binds : ∀ d ∈ ds, BP d := by
  unfold ds
  simp only [List.forall_mem_cons]
  exact ⟨(fun _ _ _ _ _ _ us hl => match us, hl with | [_, _, _], _ => rfl), (fun _ _ _ _ _ _ us hl => match us, hl with | [_, _], _ => rfl), (fun _ _ _ _ _ _ us hl => match us, hl with | [_, _, _], _ => rfl), (fun _ _ _ _ _ _ us hl => match us, hl with | [_, _], _ => rfl), (fun _ _ _ _ _ _ us hl => match us, hl with | [_], _ => rfl), (fun _ _ _ _ _ _ us hl => match us, hl with | [_], _ => rfl), (fun _ _ _ _ _ _ us hl => match us, hl with | [_, _], _ => rfl), (fun _ _ _ _ _ _ us hl => match us, hl with | [_, _], _ => rfl), (fun _ _ _ _ _ _ us hl => match us, hl with | [_, _], _ => rfl), (fun _ _ _ _ _ _ us hl => match us, hl with | [_, _], _ => rfl), (fun _ _ _ _ _ _ us hl => match us, hl with | [_, _], _ => rfl), (fun _ _ _ _ _ _ us hl => match us, hl with | [_, _, _], _ => rfl), (fun _ _ _ _ _ _ us hl => match us, hl with | [_], _ => rfl), (fun _ _ _ _ _ _ us hl => match us, hl with | [_], _ => rfl), (fun _ _ _ _ _ _ us hl => match us, hl with | [_], _ => rfl), (fun _ _ _ _ _ _ us hl => match us, hl with | [_, _], _ => rfl), (fun _ _ _ _ _ _ us hl => match us, hl with | [_, _, _, _], _ => rfl), (fun _ _ _ _ _ _ us hl => match us, hl with | [_, _, _], _ => rfl), (fun _ _ _ _ _ _ us hl => match us, hl with | [_, _], _ => rfl), (fun _ _ _ _ _ _ us hl => match us, hl with | [_], _ => rfl), fun _ h => nomatch h⟩
theorem hok : ds.all (DI.ok G (fnames ds)) = true := by decide +kernel
theorem hg : G.all gOk = true := by decide +kernel
theorem hn : ds.all (fun d => !(d.nm == ("__debug__" : Str))) = true := by decide +kernel
end K93

set_option Elab.async false
set_option linter.all false
set_option maxRecDepth 100000
set_option maxHeartbeats 4000000
namespace K93
open PySem Pv
structure Link where
  a : Int
  b : Int
  slow : Int
  every : Int
  room : Int
  drops : List Int
  doubles : List Int
  lates : List (Int × Int)
structure St where
  place : Int
  last : Option Int
  waiting : List Int
def eI (xs : List Int) : PyData := .tuple (xs.map .int)
def eP (p : Int × Int) : PyData := .tuple [.int p.1, .int p.2]
def eL (xs : List (Int × Int)) : PyData := .tuple (xs.map eP)
def eO : Option Int → PyData
  | none => .none
  | some x => .int x
def Link.enc (l : Link) : PyData := .tuple [.int l.a, .int l.b, .int l.slow, .int l.every, .int l.room, eI l.drops, eI l.doubles, eL l.lates]
def St.enc (s : St) : PyData := .tuple [.int s.place, eO s.last, eI s.waiting]
def rn (k : Nat) : Fns := Pv.run G (fds ds) k
structure Link.WF (l : Link) : Prop where
  every0 : 0 ≤ l.every
  every1 : l.every ≤ 1000
  room0 : l.every = 0 → l.room = 0
  room1 : 0 < l.every → 1 ≤ l.room
  room2 : l.room ≤ 20
  drops : l.drops.length ≤ 20
  doubles : l.doubles.length ≤ 20
  lates : l.lates.length ≤ 20
  incr : l.lates.Pairwise fun p q => p.1 < q.1
/-! ### what hand does -/
def full (l : Link) (ws : List Int) : Bool := decide (0 < l.every) && decide (l.room ≤ ws.length)
def leave (l : Link) (last : Option Int) (now : Int) : Int := match last with
  | none => now
  | some x => if 0 < l.every then (if now < x + l.every then x + l.every else now) else now
def more (lates : List (Int × Int)) (place : Int) : Int := match lates with
  | [] => 0
  | p :: r => if p.1 = place then p.2 else more r place
def left (ws : List Int) (now : Int) : List Int := ws.filter fun t => decide (now < t)
def handed (l : Link) (s : St) (now : Int) : St × List Int :=
  let ws := left s.waiting now
  if (l.drops.contains s.place || full l ws) = true then (⟨s.place + 1, s.last, ws⟩, [])
  else
    let lv := leave l s.last now
    let ar := lv + l.slow + more l.lates s.place
    (⟨s.place + 1, some lv, if now < lv then ws ++ [lv] else ws⟩, if l.doubles.contains s.place = true then [ar, ar] else [ar])
def eR (r : St × List Int) : PyData := .tuple [r.1.enc, eI r.2]

section
variable (k : Nat)
theorem r_is_full (a b : D) : rn (k + 1) 1 [a, b] = if lkOk [0, 1] 0 [a, b] = true then outS 2 [a, b] (ex (rn k) G b_is_full [some a, some b]) else none := rfl
theorem is_full_ok (l : Link) (hl : l.WF) (ws : List Int) : rn (k + 1) 1 [.p l.enc, .p (eI ws)] = some (.p (.bool (full l ws)), [.p l.enc, .p (eI ws)]) := by
  have h0 := hl.every0
  rw [r_is_full]
  by_cases h : l.every = 0
  · simp [b_is_full, Link.enc, eI, G, ixS, cmpS, eqS, bltS, truthS, outS, outS.mapOuts, lkOk, L2.atI, L2.ixN, h, full]
  · simp [b_is_full, Link.enc, eI, G, ixS, cmpS, eqS, bltS, truthS, outS, outS.mapOuts, lkOk, L2.atI, L2.ixN, h, full]
    omega
theorem r_leaving (a b c : D) : rn (k + 1) 2 [a, b, c] = if lkOk [0, 1, 2] 0 [a, b, c] = true then outS 3 [a, b, c] (ex (rn k) G b_leaving [some a, some b, some c]) else none := rfl
theorem leaving_ok (l : Link) (hl : l.WF) (last : Option Int) (now : Int) : rn (k + 1) 2 [.p l.enc, .p (eO last), .p (.int now)] = some (.p (.int (leave l last now)), [.p l.enc, .p (eO last), .p (.int now)]) := by
  have h0 := hl.every0
  rw [r_leaving]
  by_cases h : l.every = 0
  · cases last <;> simp [b_leaving, Link.enc, eO, G, ixS, cmpS, eqS, bltS, truthS, outS, outS.mapOuts, lkOk, L2.atI, L2.ixN, h, leave]
  · have h1 : 0 < l.every := by omega
    cases last <;> simp [b_leaving, Link.enc, eO, G, ixS, cmpS, eqS, bltS, binS, truthS, outS, outS.mapOuts, lkOk, L2.atI, L2.ixN, h, h1, leave]
theorem r_worst (a : D) : rn (k + 1) 4 [a] = if lkOk [0] 0 [a] = true then outS 1 [a] (ex (rn k) G b_worst [some a]) else none := rfl
theorem worst_ok (l : Link) (hl : l.WF) : rn (k + 1) 4 [.p l.enc] = some (.p (.int (l.slow + l.every * l.room)), [.p l.enc]) := by
  have h0 := hl.every0
  have h1 := hl.every1
  have hr : inR l.every = true := by simp [inR]; omega
  rw [r_worst]
  simp [b_worst, Link.enc, G, ixS, cmpS, binS, truthS, outS, outS.mapOuts, lkOk, L2.atI, L2.ixN, hr]
theorem r_more (a b : D) : rn (k + 1) 3 [a, b] = if lkOk [0, 1] 0 [a, b] = true then outS 2 [a, b] (ex (rn k) G b_more_for [some a, some b, none, none]) else none := rfl
theorem more_ok (l : Link) (place : Int) : rn (k + 1) 3 [.p l.enc, .p (.int place)] = some (.p (.int (more l.lates place)), [.p l.enc, .p (.int place)]) := by
  rw [r_more]
  have go : ∀ (xs : List (Int × Int)) (u v : Option D), ∃ ρ, forL (fun ρ x => asgT ρ (.tp [2, 3]) x) (ex (rn k) G (.seq (.ite (.cmp .eq (.var 2) (.var 1)) (.seq (.ret (.mov 3)) .done) .done) .done)) (xs.map eP) [some (.p l.enc), some (.p (.int place)), u, v]
      = some ρ ∧ ((∃ u v, ρ = .nx [some (.p l.enc), some (.p (.int place)), u, v] ∧ more xs place = 0) ∨ ∃ u v, ρ = .ret (.p (.int (more xs place))) [some (.p l.enc), some (.p (.int place)), u, v]) := by
    intro xs
    induction xs with
    | nil => intro u v; exact ⟨_, rfl, .inl ⟨u, v, rfl, rfl⟩⟩
    | cons p r ih =>
      intro u v
      by_cases h : p.1 = place
      · refine ⟨_, ?_, .inr ⟨some (.p (.int p.1)), some (.p (.int p.2)), rfl⟩⟩
        simp [forL, eP, cmpS, eqS, h, more]
      · obtain ⟨ρ, e1, e2⟩ := ih (some (.p (.int p.1))) (some (.p (.int p.2)))
        refine ⟨ρ, ?_, ?_⟩
        · rw [← e1]
          simp [forL, eP, cmpS, eqS, h]
        · simpa only [more, if_neg h] using e2
  obtain ⟨ρ, e1, e2⟩ := go l.lates none none
  rw [b_more_for, ex_seq, ex_for]
  have hs : ((ev (rn k) G (.cons (.ix (.var 0) (.glob 5)) .nil)).ps [some (.p l.enc), some (.p (.int place)), none, none]) = some ([eL l.lates], [some (.p l.enc), some (.p (.int place)), none, none]) := by
    simp [Link.enc, G, ixS, L2.atI, L2.ixN]
  rw [hs, Option.bind_some]
  dsimp only
  rw [show itemsOf .seq [eL l.lates] = some (l.lates.map eP) from rfl, Option.bind_some, e1]
  rcases e2 with ⟨u, v, rfl, e⟩ | ⟨u, v, rfl⟩
  · simp [lkOk, outS, outS.mapOuts, e]
  · simp [lkOk, outS, outS.mapOuts]
end
end K93

set_option Elab.async false
set_option linter.all false
set_option maxRecDepth 100000
set_option maxHeartbeats 400000
namespace K93
open PySem Pv
section
variable (C : Fns) (G : List (Str × PyData))
@[simp] theorem ev_lc_o (tg : Tg) (it : It) (src ifs elt : E) (own : List (Str × Nat)) : (ev C G (.lc tg it src ifs elt own)).o = oOfV (ev C G (.lc tg it src ifs elt own)).v := rfl
@[simp] theorem ev_lc_t (tg : Tg) (it : It) (src ifs elt : E) (own : List (Str × Nat)) : (ev C G (.lc tg it src ifs elt own)).t = tOfV (ev C G (.lc tg it src ifs elt own)).v := rfl
@[simp] theorem ev_lc_p (tg : Tg) (it : It) (src ifs elt : E) (own : List (Str × Nat)) : (ev C G (.lc tg it src ifs elt own)).p = fun ρ => ((ev C G (.lc tg it src ifs elt own)).v ρ).map fun (d, ρ') => (d.toP, ρ') := rfl
theorem ev_lc_v (tg : Tg) (it : It) (src ifs elt : E) (own : List (Str × Nat)) : (ev C G (.lc tg it src ifs elt own)).v = lcV tg it (ev C G src).ps (ev C G ifs) (ev C G elt).p (own.map (·.2)) := rfl
end
@[simp] theorem gG0 : G[0]? = some (("DELAY" : Str), PyData.int 2) := rfl
@[simp] theorem gG1 : G[1]? = some (("EVERY" : Str), PyData.int 3) := rfl
@[simp] theorem gG2 : G[2]? = some (("ROOM" : Str), PyData.int 4) := rfl
@[simp] theorem gG3 : G[3]? = some (("DROPS" : Str), PyData.int 5) := rfl
@[simp] theorem gG4 : G[4]? = some (("DOUBLES" : Str), PyData.int 6) := rfl
@[simp] theorem gG5 : G[5]? = some (("LATES" : Str), PyData.int 7) := rfl
@[simp] theorem ix_l0 (l : Link) : ixS l.enc (.int 0) = some (.int l.a) := rfl
@[simp] theorem ix_l1 (l : Link) : ixS l.enc (.int 1) = some (.int l.b) := rfl
@[simp] theorem ix_l2 (l : Link) : ixS l.enc (.int 2) = some (.int l.slow) := rfl
@[simp] theorem ix_l3 (l : Link) : ixS l.enc (.int 3) = some (.int l.every) := rfl
@[simp] theorem ix_l4 (l : Link) : ixS l.enc (.int 4) = some (.int l.room) := rfl
@[simp] theorem ix_l5 (l : Link) : ixS l.enc (.int 5) = some (eI l.drops) := rfl
@[simp] theorem ix_l6 (l : Link) : ixS l.enc (.int 6) = some (eI l.doubles) := rfl
@[simp] theorem ix_l7 (l : Link) : ixS l.enc (.int 7) = some (eL l.lates) := rfl
@[simp] theorem ix_s0 (s : St) : ixS s.enc (.int 0) = some (.int s.place) := rfl
@[simp] theorem ix_s1 (s : St) : ixS s.enc (.int 1) = some (eO s.last) := rfl
@[simp] theorem ix_s2 (s : St) : ixS s.enc (.int 2) = some (eI s.waiting) := rfl
@[simp] theorem ix_r0 (r : St × List Int) : ixS (eR r) (.int 0) = some r.1.enc := rfl
@[simp] theorem ix_r1 (r : St × List Int) : ixS (eR r) (.int 1) = some (eI r.2) := rfl
@[simp] theorem len_eI (xs : List Int) : bltS .len [eI xs] = some (.p (.int xs.length)) := by simp [bltS, eI]
theorem fold_eI (xs : List Int) : PyData.tuple (xs.map .int) = eI xs := rfl
theorem fold_eL (xs : List (Int × Int)) : PyData.tuple (xs.map eP) = eL xs := rfl
@[simp] theorem tuple_eI (xs : List Int) : bltS .tuple [.list (xs.map .int)] = some (.p (eI xs)) := rfl
@[simp] theorem list_eI (xs : List Int) : bltS .list [eI xs] = some (.own (xs.map .int)) := rfl
@[simp] theorem items_eI (xs : List Int) : itemsOf .seq [eI xs] = some (xs.map .int) := rfl
@[simp] theorem items_eL (xs : List (Int × Int)) : itemsOf .seq [eL xs] = some (xs.map eP) := rfl
theorem any_eqv (xs : List Int) (p : Int) : ((xs.map PyData.int).any fun y => PyData.eqv y (.int p)) = xs.contains p := by
  induction xs with
  | nil => rfl
  | cons x r ih =>
    rw [List.map_cons, List.any_cons, ih, List.contains_cons]
    congr 1
    show decide (x = p) = _
    by_cases h : x = p
    · subst h; simp
    · rw [decide_eq_false h]; exact (beq_eq_false_iff_ne.mpr (Ne.symm h)).symm
@[simp] theorem in_eI (xs : List Int) (p : Int) : cmpS .isin (.int p) (eI xs) = some (xs.contains p) := by
  show inS (.int p) (xs.map .int) = _
  unfold inS
  rw [any_eqv, if_pos]
  simp [flatP]
theorem lc_filter (C : Fns) (G : List (Str × PyData)) (ws : List Int) (now : Int) (hw : ws.length ≤ 1000) (own : List (Str × Nat)) (ρ : EV) (i j m : Nat) (ho : own.map (·.2) = [j]) (hi : ρ[i]? = some (some (.p (eI ws)))) (hm : ρ[m]? = some (some (.p (.int now)))) (hij : i ≠ j) (hmj : m ≠ j) (hj : j < ρ.length) (o : Option D) (hr : ρ[j]? = some o) :
    (ev C G (.lc (.nm j) .seq (.cons (.var i) .nil) (.cmp .gt (.var j) (.var m)) (.var j) own)).v ρ = some (.own ((left ws now).map .int), ρ) := by
  rw [ev_lc_v, ho]
  have h := lcV_pure (tg := .nm j) (it := .seq) (src := (ev C G (.cons (.var i) .nil)).ps) (ifs := ev C G (.cmp .gt (.var j) (.var m))) (elt := (ev C G (.var j)).p) (own := [j]) (ρ := ρ) (ρ1 := ρ) (xs := [eI ws]) (items := ws.map .int)
    (fun x => match x with | .int t => decide (now < t) | _ => false) id (fun x => ρ.set j (some (.p x))) ?a rfl (by simp; omega) ?b ?c ?d ?e ?f
  · rw [h]
    simp [left, List.filter_map, Function.comp_def]
  · simp [hi]
  · intro x hx
    simp
  · intro x hx
    obtain ⟨t, -, rfl⟩ := List.mem_map.mp hx
    rw [tst1_some rfl]
    simp [List.getElem?_set_self hj, List.getElem?_set_ne (Ne.symm hmj), hm, cmpS]
  · intro x hx _
    simp [List.getElem?_set_self hj]
  · intro x hx
    simp
  · intro x hx
    simp [hr]
    refine List.ext_getElem? fun q => ?_
    by_cases e : j = q
    · subst e; rw [List.getElem?_set_self hj, hr]
    · rw [List.getElem?_set_ne e]
theorem left_len (ws : List Int) (now : Int) : (left ws now).length ≤ ws.length := List.length_filter_le _ _
theorem tup_snoc (ws : List Int) (x : Int) (h : ws.length ≤ 1000) : binS .add (eI ws) (.tuple [.int x]) = some (.p (eI (ws ++ [x]))) := by
  simp [binS, eI, show ws.length + 1 ≤ 16777216 by omega]
section
variable (k : Nat)
theorem r_hand (a b c : D) : rn (k + 1) 0 [a, b, c] = if lkOk [0, 1, 2] 0 [a, b, c] = true then outS 3 [a, b, c] (ex (rn k) G b_hand [some a, some b, some c, none, none, none, none, none, none]) else none := rfl
theorem hand_ok (l : Link) (hl : l.WF) (s : St) (hs : s.waiting.length ≤ 999) (now : Int) : rn (k + 2) 0 [.p l.enc, .p s.enc, .p (.int now)] = some (.p (eR (handed l s now)), [.p l.enc, .p s.enc, .p (.int now)]) := by
  obtain ⟨place, last, waiting⟩ := s
  rw [r_hand, b_hand]
  have f1 := lc_filter (rn (k + 1)) G waiting now (by simp at hs; omega) [("time", 6)] [some (.p l.enc), some (.p (St.enc ⟨place, last, waiting⟩)), some (.p (.int now)), some (.p (.int place)), some (.p (eO last)), some (.p (eI waiting)), none, none, none] 5 6 2 rfl rfl rfl (by decide) (by decide) (by simp) _ rfl
  have f2 := is_full_ok k l hl (left waiting now)
  have f3 := leaving_ok k l hl last now
  have f4 := more_ok k l place
  have f5 := tup_snoc (left waiting now) (leave l last now) (by have := left_len waiting now; simp at hs; omega)
  simp only [St.enc] at f1 ⊢
  by_cases h1 : place ∈ l.drops
  · simp [fold_eI, -List.map_map, f1, h1, handed, eR, St.enc]
    simp [eI, eO]
  · cases h2 : full l (left waiting now) with
    | true =>
      simp [fold_eI, -List.map_map, f1, f2, h1, h2, handed, eR, St.enc]
      simp [eI, eO]
    | false =>
      by_cases h3 : now < leave l last now
      · by_cases h4 : place ∈ l.doubles
        · simp [fold_eI, -List.map_map, f1, f2, f3, f4, f5, h1, h2, h3, h4, handed, eR, St.enc]
          simp [eI, eO]
        · simp [fold_eI, -List.map_map, f1, f2, f3, f4, f5, h1, h2, h3, h4, handed, eR, St.enc]
          simp [eI, eO]
      · by_cases h4 : place ∈ l.doubles
        · simp [fold_eI, -List.map_map, f1, f2, f3, f4, f5, h1, h2, h3, h4, handed, eR, St.enc]
          simp [eI, eO]
        · simp [fold_eI, -List.map_map, f1, f2, f3, f4, f5, h1, h2, h3, h4, handed, eR, St.enc]
          simp [eI, eO]
end
end K93

set_option Elab.async false
set_option linter.all false
set_option maxRecDepth 100000
set_option maxHeartbeats 400000
namespace K93
open PySem Pv
theorem filter_none {lates : List (Int × Int)} {place : Int} (h : ∀ q ∈ lates, place < q.1) : lates.filter (fun p => decide (p.1 = place)) = [] := by
  rw [List.filter_eq_nil_iff]
  intro q hq
  have := h q hq
  simp
  omega
theorem sum_more (place : Int) : ∀ lates : List (Int × Int), (lates.Pairwise fun p q => p.1 < q.1) → ((lates.filter fun p => decide (p.1 = place)).map (·.2)).sum = more lates place
  | [], _ => rfl
  | p :: r, h => by
    obtain ⟨h1, h2⟩ := List.pairwise_cons.mp h
    unfold more
    by_cases e : p.1 = place
    · rw [if_pos e, List.filter_cons_of_pos (by simpa using e), filter_none (fun q hq => e ▸ h1 q hq)]
      simp
    · rw [if_neg e, List.filter_cons_of_neg (by simpa using e), sum_more place r h2]
theorem sum_ints (xs : List Int) : bltS .sum [.list (xs.map .int)] = some (.p (.int xs.sum)) := by
  have h : intsOf (xs.map .int) = some xs := by
    induction xs with
    | nil => rfl
    | cons x r ih => simp [intsOf, ih]
  simp [bltS, h]
theorem lc_sum (C : Fns) (l : Link) (hl : l.WF) (place : Int) (ρ : EV) (h0 : ρ[0]? = some (some (.p l.enc))) (h3 : ρ[3]? = some (some (.p (.int place)))) (o : Option D) (hr : ρ[10]? = some o) :
    (ev C G (.lc (.nm 10) .seq (.cons (.ix (.var 0) (.con (.int 7))) .nil) (.cmp .eq (.ix (.var 10) (.con (.int 0))) (.var 3)) (.ix (.var 10) (.con (.int 1))) [("row", 10)])).v ρ = some (.own (((l.lates.filter fun p => decide (p.1 = place)).map (·.2)).map .int), ρ) := by
  rw [ev_lc_v]
  have hj := (List.getElem?_eq_some_iff.mp hr).1
  have h := lcV_pure (tg := .nm 10) (it := .seq) (src := (ev C G (.cons (.ix (.var 0) (.con (.int 7))) .nil)).ps) (ifs := ev C G (.cmp .eq (.ix (.var 10) (.con (.int 0))) (.var 3))) (elt := (ev C G (.ix (.var 10) (.con (.int 1)))).p) (own := [10]) (ρ := ρ) (ρ1 := ρ) (xs := [eL l.lates]) (items := l.lates.map eP)
    (fun x => match x with | .tuple [.int t, _] => decide (t = place) | _ => false) (fun x => match x with | .tuple [_, y] => y | _ => .none) (fun x => ρ.set 10 (some (.p x))) ?a rfl (by have := hl.lates; simp; omega) ?b ?c ?d ?e ?f
  · simp only [List.map_cons, List.map_nil]
    rw [h]
    simp [List.filter_map, Function.comp_def, eP]
  · simp [h0]
  · intro x hx
    simp
  · intro x hx
    obtain ⟨t, -, rfl⟩ := List.mem_map.mp hx
    rw [tst1_some rfl]
    simp [List.getElem?_set_self hj, h3, eP]
  · intro x hx _
    obtain ⟨t, -, rfl⟩ := List.mem_map.mp hx
    simp [List.getElem?_set_self hj, eP]
  · intro x hx
    simp
  · intro x hx
    simp [hr]
    refine List.ext_getElem? fun q => ?_
    by_cases e : 10 = q
    · subst e; rw [List.getElem?_set_self hj, hr]
    · rw [List.getElem?_set_ne e]
theorem lc_rep (C : Fns) (n : Int) (arr : Int) (hn : n = 1 ∨ n = 2) (e : E) (ρ : EV) (h9 : ρ[9]? = some (some (.p (.int arr)))) (o : Option D) (hr : ρ[11]? = some o) (he : (ev C G (.cons e .nil)).ps ρ = some ([.int n], ρ)) :
    (ev C G (.lc (.nm 11) .rng1 (.cons e .nil) .nil (.var 9) [("k", 11)])).v ρ = some (.own ((if n = 1 then [arr] else [arr, arr]).map .int), ρ) := by
  rw [ev_lc_v]
  have hj := (List.getElem?_eq_some_iff.mp hr).1
  have h := lcV_pure (tg := .nm 11) (it := .rng1) (src := (ev C G (.cons e .nil)).ps) (ifs := ev C G .nil) (elt := (ev C G (.var 9)).p) (own := [11]) (ρ := ρ) (ρ1 := ρ) (xs := [.int n]) (items := rngL 0 n)
    (fun x => true) (fun x => .int arr) (fun x => ρ.set 11 (some (.p x))) he (by rcases hn with rfl | rfl <;> rfl) (by rcases hn with rfl | rfl <;> simp [rngL]) ?b ?c ?d ?e ?f
  · simp only [List.map_cons, List.map_nil]
    rw [h]
    rcases hn with rfl | rfl <;> rfl
  · intro x hx
    simp
  · intro x hx
    rfl
  · intro x hx _
    simp [h9]
  · intro x hx
    simp
  · intro x hx
    simp [hr]
    refine List.ext_getElem? fun q => ?_
    by_cases e : 11 = q
    · subst e; rw [List.getElem?_set_self hj, hr]
    · rw [List.getElem?_set_ne e]
def tl_h : S := (.seq (.set 9 (.bin .add (.bin .add (.var 8) (.ix (.var 0) (.con (.int 2)))) (.blt .sum (.cons (.lc (.nm 10) .seq (.cons (.ix (.var 0) (.con (.int 7))) .nil) (.cmp .eq (.ix (.var 10) (.con (.int 0))) (.var 3)) (.ix (.var 10) (.con (.int 1))) [("row", 10)]) .nil)))) (.seq (.ret (.tup (.cons (.tup (.cons (.bin .add (.var 3) (.con (.int 1))) (.cons (.var 8) (.cons (.blt .tuple (.cons (.var 6) .nil)) .nil)))) (.cons (.blt .tuple (.cons (.lc (.nm 11) .rng1 (.cons (.bin .add (.con (.int 1)) (.blt .int (.cons (.cmp .isin (.var 3) (.ix (.var 0) (.con (.int 6)))) .nil))) .nil) .nil (.var 9) [("k", 11)]) .nil)) .nil)))) .done))
theorem b_h : b__law_handed = (.seq (.unp [3, 4, 5] (.var 1)) (.seq (.set 6 (.lc (.nm 7) .seq (.cons (.var 5) .nil) (.cmp .gt (.var 7) (.var 2)) (.var 7) [("time", 7)])) (.seq (.ite (.orE (.cmp .isin (.var 3) (.ix (.var 0) (.con (.int 5)))) (.andE (.cmp .gt (.ix (.var 0) (.con (.int 3))) (.con (.int 0))) (.cmp .ge (.blt .len (.cons (.var 6) .nil)) (.ix (.var 0) (.con (.int 4)))))) (.seq (.ret (.tup (.cons (.tup (.cons (.bin .add (.var 3) (.con (.int 1))) (.cons (.var 4) (.cons (.blt .tuple (.cons (.var 6) .nil)) .nil)))) (.cons (.tup .nil) .nil)))) .done) .done) (.seq (.set 8 (.var 2)) (.seq (.ite (.andE (.cmp .gt (.ix (.var 0) (.con (.int 3))) (.con (.int 0))) (.cmp .notN (.var 4) (.con .none))) (.seq (.set 8 (.blt .max (.cons (.var 2) (.cons (.bin .add (.var 4) (.ix (.var 0) (.con (.int 3)))) .nil)))) .done) .done) (.seq (.ite (.cmp .gt (.var 8) (.var 2)) (.seq (.exp (.meth .append 6 (.cons (.var 8) .nil))) .done) .done) tl_h)))))) := rfl
section
variable (k : Nat)
theorem r_handed (a b c : D) : rn (k + 1) 11 [a, b, c] = if lkOk [0, 1, 2] 0 [a, b, c] = true then outS 3 [a, b, c] (ex (rn k) G b__law_handed [some a, some b, some c, none, none, none, none, none, none, none, none, none]) else none := rfl
theorem lh_tail (l : Link) (hl : l.WF) (st : PyData) (now place : Int) (last : Option Int) (waiting : List Int) (ws : List Int) (hws : ws.length ≤ 1000) (lv : Int) :
    ∃ ρ, ex (rn k) G tl_h
      [some (.p l.enc), some (.p st), some (.p (.int now)), some (.p (.int place)), some (.p (eO last)), some (.p (eI waiting)), some (.own (ws.map .int)), none, some (.p (.int lv)), none, none, none]
      = some (.ret (.p (.tuple [.tuple [.int (place + 1), .int lv, eI ws], eI (if l.doubles.contains place = true then [lv + l.slow + more l.lates place, lv + l.slow + more l.lates place] else [lv + l.slow + more l.lates place])])) (some (.p l.enc) :: some (.p st) :: some (.p (.int now)) :: ρ)) := by
  unfold tl_h
  have f1 := lc_sum (rn k) l hl place [some (.p l.enc), some (.p st), some (.p (.int now)), some (.p (.int place)), some (.p (eO last)), some (.p (eI waiting)), some (.own (ws.map .int)), none, some (.p (.int lv)), none, none, none] rfl rfl _ rfl
  have f2 := sum_ints ((l.lates.filter fun p => decide (p.1 = place)).map (·.2))
  rw [sum_more place l.lates hl.incr] at f2
  have f3 := lc_rep (rn k) (1 + if l.doubles.contains place = true then 1 else 0) (lv + l.slow + more l.lates place) (by split <;> decide) (.bin .add (.con (.int 1)) (.blt .int (.cons (.cmp .isin (.var 3) (.ix (.var 0) (.con (.int 6)))) .nil)))
    [some (.p l.enc), some (.p st), some (.p (.int now)), some (.p (.int place)), some (.p (eO last)), some (.p (eI waiting)), some (.own (ws.map .int)), none, some (.p (.int lv)), some (.p (.int (lv + l.slow + more l.lates place))), none, none] rfl _ rfl (by simp)
  refine ⟨[some (.p (.int place)), some (.p (eO last)), some (.p (eI waiting)), some (.own (ws.map .int)), none, some (.p (.int lv)), some (.p (.int (lv + l.slow + more l.lates place))), none, none], ?_⟩
  by_cases h : place ∈ l.doubles
  · simp [h] at f3
    simp [fold_eI, -List.map_map, f1, f2, f3, h]
    simp [eI]
  · simp [h] at f3
    simp [fold_eI, -List.map_map, f1, f2, f3, h]
    simp [eI]
theorem handed_ok (l : Link) (hl : l.WF) (s : St) (hs : s.waiting.length ≤ 999) (now : Int) : rn (k + 2) 11 [.p l.enc, .p s.enc, .p (.int now)] = some (.p (eR (handed l s now)), [.p l.enc, .p s.enc, .p (.int now)]) := by
  obtain ⟨place, last, waiting⟩ := s
  rw [r_handed, b_h]
  have f1 := lc_filter (rn (k + 1)) G waiting now (by simp at hs; omega) [("time", 7)] [some (.p l.enc), some (.p (St.enc ⟨place, last, waiting⟩)), some (.p (.int now)), some (.p (.int place)), some (.p (eO last)), some (.p (eI waiting)), none, none, none, none, none, none] 5 7 2 rfl rfl rfl (by decide) (by decide) (by simp) _ rfl
  have hle := left_len waiting now
  have hlen : (left waiting now).length < 16777216 := by simp at hs; omega
  have hl3 : (left waiting now).length ≤ 999 := by simp at hs; omega
  simp only [St.enc] at f1 ⊢
  by_cases h1 : place ∈ l.drops
  · simp [fold_eI, f1, h1, handed, eR, St.enc]
    simp [eI, eO]
  · by_cases h0 : 0 < l.every
    · by_cases h2 : l.room ≤ (left waiting now).length
      · simp [fold_eI, f1, h1, h0, h2, full, handed, eR, St.enc]
        simp [eI, eO]
      · cases last with
        | none =>
          obtain ⟨ρ, e⟩ := lh_tail (k + 1) l hl (.tuple [.int place, eO none, eI waiting]) now place none waiting (left waiting now) (by omega) now
          simp only [eO] at f1 e ⊢
          simp [fold_eI, f1, h1, h0, h2, full, e, handed, leave, eR, St.enc, eO]
        | some y =>
          by_cases h3 : now < y + l.every
          · obtain ⟨ρ, e⟩ := lh_tail (k + 1) l hl (.tuple [.int place, eO (some y), eI waiting]) now place (some y) waiting (left waiting now ++ [y + l.every]) (by simp; omega) (y + l.every)
            simp only [eO, List.map_append, List.map_cons, List.map_nil] at f1 e ⊢
            simp [fold_eI, f1, h1, h0, h2, h3, full, e, handed, leave, eR, St.enc, eO, hlen, -List.map_append]
          · obtain ⟨ρ, e⟩ := lh_tail (k + 1) l hl (.tuple [.int place, eO (some y), eI waiting]) now place (some y) waiting (left waiting now) (by omega) now
            simp only [eO] at f1 e ⊢
            simp [fold_eI, f1, h1, h0, h2, h3, full, e, handed, leave, eR, St.enc, eO]
    · obtain ⟨ρ, e⟩ := lh_tail (k + 1) l hl (.tuple [.int place, eO last, eI waiting]) now place last waiting (left waiting now) (by omega) now
      cases last <;> simp only [eO] at f1 e ⊢ <;> simp [fold_eI, f1, h1, h0, full, e, handed, leave, eR, St.enc, eO]
end
end K93

set_option Elab.async false
set_option linter.all false
set_option maxRecDepth 100000
set_option maxHeartbeats 400000
namespace K93
open PySem Pv
def Nest : Nat → PyData → Prop
  | _, .int _ => True
  | _, .none => True
  | n + 1, .tuple xs => xs.length ≤ 1000 ∧ ∀ y ∈ xs, Nest n y
  | _, _ => False
theorem r_same (k : Nat) (a b : D) : rn (k + 1) 9 [a, b] = if lkOk [0, 1] 0 [a, b] = true then outS 2 [a, b] (ex (rn k) G b__law_same [some a, some b, none]) else none := rfl
theorem rng_mem {n : Int} {x : PyData} (h : x ∈ rngL 0 n) : ∃ i : Nat, x = .int i ∧ i < n.toNat := by
  simp [rngL] at h
  obtain ⟨i, h1, h2⟩ := h
  exact ⟨i, h2.symm, by omega⟩
theorem rng_len (a b : Int) : (rngL a b).length = (b - a).toNat := by simp [rngL]
theorem lc_same (C : Fns) (xs : List PyData) (hx : xs.length ≤ 1000) (hc : ∀ y ∈ xs, C 9 [.p y, .p y] = some (.p (.bool true), [.p y, .p y])) :
    (ev C G (.lc (.nm 2) .rng1 (.cons (.blt .len (.cons (.var 1) .nil)) .nil) .nil (.call 9 (.cons (.ix (.var 0) (.var 2)) (.cons (.ix (.var 1) (.var 2)) .nil))) [("k", 2)])).v [some (.p (.tuple xs)), some (.p (.tuple xs)), none] = some (.own (xs.map fun _ => .bool true), [some (.p (.tuple xs)), some (.p (.tuple xs)), none]) := by
  rw [ev_lc_v]
  have h := lcV_pure (tg := .nm 2) (it := .rng1) (src := (ev C G (.cons (.blt .len (.cons (.var 1) .nil)) .nil)).ps) (ifs := ev C G .nil) (elt := (ev C G (.call 9 (.cons (.ix (.var 0) (.var 2)) (.cons (.ix (.var 1) (.var 2)) .nil)))).p) (own := [2]) (ρ := [some (.p (.tuple xs)), some (.p (.tuple xs)), none]) (ρ1 := [some (.p (.tuple xs)), some (.p (.tuple xs)), none]) (xs := [.int xs.length]) (items := rngL 0 xs.length)
    (fun x => true) (fun x => .bool true) (fun x => [some (.p (.tuple xs)), some (.p (.tuple xs)), some (.p x)]) (by simp) (by simp [itemsOf]; omega) (by rw [rng_len]; omega) (by intro x _; simp) (by intro x _; rfl) ?c (by intro x _; simp) (by intro x _; simp)
  · simp only [List.map_cons, List.map_nil]
    rw [h]
    rw [List.filter_eq_self.mpr (fun _ _ => rfl)]
    have e : (rngL 0 xs.length).map (fun _ => PyData.bool true) = xs.map fun _ => .bool true := List.ext_getElem (by simp [rngL]) (by simp)
    rw [e]
  · intro x hx _
    obtain ⟨i, rfl, hi⟩ := rng_mem hx
    have hi : i < xs.length := by omega
    have e : L2.atI xs (i : Int) = some xs[i] := x_n (by omega) (by simp [hi])
    have := hc xs[i] (by simp)
    simp [e, this]
theorem no_false (xs : List PyData) : cmpS .notin (.bool false) (.list (xs.map fun _ => .bool true)) = some true := by
  simp [cmpS, inS, flatP, PyData.eqv]
theorem same_int (k : Nat) (i : Int) : rn (k + 1) 9 [.p (.int i), .p (.int i)] = some (.p (.bool true), [.p (.int i), .p (.int i)]) := by
  rw [r_same]
  simp [b__law_same, isiS]
theorem same_none (k : Nat) : rn (k + 1) 9 [.p .none, .p .none] = some (.p (.bool true), [.p .none, .p .none]) := by
  rw [r_same]
  simp [b__law_same, isiS]
theorem same_t (C : Fns) (xs ys : List PyData) (e : E) (he : ∃ tg it src ifs elt own, e = .lc tg it src ifs elt own) (f1 : (ev C G e).v [some (D.p (PyData.tuple xs)), some (D.p (PyData.tuple xs)), none] = some (D.own ys, [some (D.p (PyData.tuple xs)), some (D.p (PyData.tuple xs)), none]))
    (f2 : cmpS Cop.notin (PyData.bool false) (PyData.list ys) = some true) : ex C G (.ret (.cmp .notin (.con (.bool false)) e)) [some (.p (.tuple xs)), some (.p (.tuple xs)), none] = some (.ret (.p (.bool true)) [some (.p (.tuple xs)), some (.p (.tuple xs)), none]) := by
  have ho : (ev C G e).o = oOfV (ev C G e).v := by obtain ⟨_, _, _, _, _, _, rfl⟩ := he; rfl
  rw [ex_ret, ev_cmp]
  generalize ev C G e = m at f1 ho ⊢
  simp [ho, f1, f2]
theorem sq (C : Fns) (xs : List PyData) (st rest : S) (f1 : ex C G st [some (.p (.tuple xs)), some (.p (.tuple xs)), none] = some (.ret (.p (.bool true)) [some (.p (.tuple xs)), some (.p (.tuple xs)), none])) :
    ex C G (.seq (.ite (.isi .tuple (.var 1)) (.seq (.ite (.orE (.nt (.isi .tuple (.var 0))) (.cmp .ne (.blt .len (.cons (.var 0) .nil)) (.blt .len (.cons (.var 1) .nil)))) (.seq (.ret (.con (.bool false))) .done) .done) (.seq st .done)) .done) rest) [some (.p (.tuple xs)), some (.p (.tuple xs)), none] = some (.ret (.p (.bool true)) [some (.p (.tuple xs)), some (.p (.tuple xs)), none]) := by
  simp [isiS, f1]
theorem same_tuple (k : Nat) (xs : List PyData) (hx : xs.length ≤ 1000) (hc : ∀ y ∈ xs, rn k 9 [.p y, .p y] = some (.p (.bool true), [.p y, .p y])) : rn (k + 1) 9 [.p (.tuple xs), .p (.tuple xs)] = some (.p (.bool true), [.p (.tuple xs), .p (.tuple xs)]) := by
  have f1 := same_t (rn k) xs _ _ ⟨_, _, _, _, _, _, rfl⟩ (lc_same (rn k) xs hx hc) (no_false xs)
  have e : ex (rn k) G b__law_same [some (.p (.tuple xs)), some (.p (.tuple xs)), none] = _ := sq (rn k) xs _ _ f1
  rw [r_same, e]
  simp
theorem same_ok : ∀ (n k : Nat) (x : PyData), Nest n x → rn (k + n + 1) 9 [.p x, .p x] = some (.p (.bool true), [.p x, .p x]) := by
  intro n
  induction n with
  | zero =>
    intro k x h
    cases x with
    | int i => exact same_int _ i
    | none => exact same_none _
    | _ => exact h.elim
  | succ n ih =>
    intro k x h
    cases x with
    | int i => exact same_int _ i
    | none => exact same_none _
    | tuple xs => exact same_tuple (k + (n + 1)) xs h.1 (fun y hy => ih k y (h.2 y hy))
    | _ => exact h.elim
theorem nest_eR (r : St × List Int) (h1 : r.1.waiting.length ≤ 1000) (h2 : r.2.length ≤ 1000) : Nest 3 (eR r) := by
  refine ⟨by simp, ?_⟩
  intro y hy
  simp at hy
  rcases hy with rfl | rfl
  · refine ⟨by simp, ?_⟩
    intro y hy
    simp at hy
    rcases hy with rfl | rfl | rfl
    · trivial
    · cases r.1.last <;> trivial
    · refine ⟨by simpa using h1, ?_⟩
      intro y hy
      obtain ⟨i, -, rfl⟩ := List.mem_map.mp hy
      trivial
  · refine ⟨by simpa using h2, ?_⟩
    intro y hy
    obtain ⟨i, -, rfl⟩ := List.mem_map.mp hy
    trivial
theorem nest_eI (r : List Int) (h : r.length ≤ 1000) : Nest 3 (eI r) := by
  refine ⟨by simpa using h, ?_⟩
  intro y hy
  obtain ⟨i, -, rfl⟩ := List.mem_map.mp hy
  trivial
theorem handed_len (l : Link) (s : St) (now : Int) : (handed l s now).1.waiting.length ≤ s.waiting.length + 1 ∧ (handed l s now).2.length ≤ 2 := by
  have := left_len s.waiting now
  unfold handed
  simp only
  split
  · exact ⟨by simp only; omega, by simp⟩
  · refine ⟨?_, ?_⟩
    · split
      · simp; omega
      · simp only; omega
    · split <;> split <;> simp
end K93

set_option Elab.async false
set_option linter.all false
set_option maxRecDepth 100000
set_option maxHeartbeats 400000
namespace K93
open PySem Pv
def tape (ns : List Int) (place big seed : Int) : D := .own [.list (ns.map .int), .int place, .int big, .int seed]
def Tp (t : D) : Prop := ∃ ns place big seed, t = tape ns place big seed ∧ 0 ≤ place
theorem tape_own {t : D} (h : Tp t) : ∃ xs, t = .own xs := by obtain ⟨ns, p, b, s, rfl, _⟩ := h; exact ⟨_, rfl⟩
@[simp] theorem st0 (a b c d x : PyData) : setItemS [a, b, c, d] (.int 0) x = some [x, b, c, d] := rfl
@[simp] theorem st1 (a b c d x : PyData) : setItemS [a, b, c, d] (.int 1) x = some [a, x, c, d] := rfl
@[simp] theorem st2 (a b c d x : PyData) : setItemS [a, b, c, d] (.int 2) x = some [a, b, x, d] := rfl
@[simp] theorem st3 (a b c d x : PyData) : setItemS [a, b, c, d] (.int 3) x = some [a, b, c, x] := rfl
@[simp] theorem inR_a : inR 48271 = true := rfl
@[simp] theorem inR_b : inR 69621 = true := rfl
@[simp] theorem inR_c : inR 31 = true := rfl
@[simp] theorem okPow_a : okPow 10 18 = true := by decide
section
variable (k : Nat)
theorem r_draw (a b : D) : rn (k + 1) 6 [a, b] = if lkOk [0, 1] 0 [a, b] = true then outS 2 [a, b] (ex (rn k) G b__law_draw [some a, some b, none, none]) else none := rfl
theorem mx1 (m : Int) : (if m < 1 then 1 else m) ≠ 0 := by split <;> omega
theorem fm_range (a m : Int) : 0 ≤ a.fmod (if m < 1 then 1 else m) ∧ a.fmod (if m < 1 then 1 else m) < (if m < 1 then 1 else m) := by
  have h : 0 < (if m < 1 then (1 : Int) else m) := by split <;> omega
  rw [Int.fmod_eq_emod_of_nonneg _ (by omega)]
  exact ⟨Int.emod_nonneg _ (by omega), Int.emod_lt_of_pos _ h⟩
theorem ok_div (m : Int) (h : m < 1073741824) : okDiv (if m < 2 then 2 else m) = true := by
  simp [okDiv]
  split <;> omega
theorem draw_raw (ns : List Int) (place big seed : Int) (hp : 0 ≤ place) (many : Int) (hm : many < 1073741824) (X : Option (D × List D)) (hX : rn (k + 1) 6 [tape ns place big seed, .p (.int many)] = X) :
    ∃ (a place' big' seed' : Int), X = some (.p (.int (a.fmod (if many < 1 then 1 else many))), [tape ns place' big' seed', .p (.int many)]) ∧ 0 ≤ place' := by
  have h1 := mx1 many
  have h2 := ok_div many hm
  rw [r_draw] at hX
  by_cases hb : big = 0
  · subst hb
    by_cases hl : place < ns.length
    · have e : L2.atI (ns.map PyData.int) place = some (.int ns[place.toNat]) := x_n hp (by simp)
      generalize ns[place.toNat] = c at e
      by_cases hc : (if c < 0 then -c else c) < 1000000000000000000
      · simp [b__law_draw, tape, e, hl, hc, h1] at hX
        exact ⟨_, place + 1, 0, seed, hX.symm, by omega⟩
      · simp [b__law_draw, tape, e, hl, hc, h1, h2] at hX
        exact ⟨_, place + 1, _, seed, hX.symm, by omega⟩
    · by_cases hc : (seed * 48271 + place + 1).fmod 2147483647 < 1000000000000000000
      · simp [b__law_draw, tape, hl, hc, h1] at hX
        exact ⟨_, place + 1, 0, _, hX.symm, by omega⟩
      · simp [b__law_draw, tape, hl, hc, h1, h2] at hX
        exact ⟨_, place + 1, _, _, hX.symm, by omega⟩
  · simp [b__law_draw, tape, hb, h1, h2] at hX
    exact ⟨_, place, _, seed, hX.symm, hp⟩
theorem draw_ok (t : D) (ht : Tp t) (many : Int) (hm : many < 1073741824) :
    ∃ r t', rn (k + 1) 6 [t, .p (.int many)] = some (.p (.int r), [t', .p (.int many)]) ∧ Tp t' ∧ 0 ≤ r ∧ r < (if many < 1 then 1 else many) := by
  obtain ⟨ns, place, big, seed, rfl, hp⟩ := ht
  obtain ⟨a, p, b, s, e, h⟩ := draw_raw k ns place big seed hp many hm _ rfl
  exact ⟨_, _, e, ⟨ns, p, b, s, rfl, h⟩, fm_range _ _⟩
end
end K93

set_option Elab.async false
set_option linter.all false
set_option maxRecDepth 100000
set_option maxHeartbeats 400000
namespace K93
open PySem Pv
def TP (xs : List PyData) : Prop := Tp (.own xs)
section
variable (k : Nat)
theorem draw_k {xs : List PyData} (h : TP xs) (many : Int) (h0 : 1 ≤ many) (hm : many < 1073741824) :
    ∃ (r : Int) (xs' : List PyData), rn (k + 1) 6 [.own xs, .p (.int many)] = some (.p (.int r), [.own xs', .p (.int many)]) ∧ TP xs' ∧ 0 ≤ r ∧ r < many := by
  obtain ⟨r, t', e, ht, h1, h2⟩ := draw_ok k (.own xs) h many hm
  obtain ⟨xs', rfl⟩ := tape_own ht
  rw [if_neg (by omega)] at h2
  exact ⟨r, xs', e, ht, h1, h2⟩
theorem at_mem {xs : List PyData} {i : Int} (h0 : 0 ≤ i) (h : i < xs.length) : ∃ y, L2.atI xs i = some y ∧ y ∈ xs :=
  ⟨xs[i.toNat], x_n h0 (by simp), List.getElem_mem _⟩
theorem r_pick (a b : D) : rn (k + 1) 7 [a, b] = if lkOk [0, 1] 0 [a, b] = true then outS 2 [a, b] (ex (rn k) G b__law_pick [some a, some b]) else none := rfl
theorem pick_k {xs : List PyData} (h : TP xs) (d : D) (ys : List PyData) (hd : d.toP = .list ys) (h0 : 0 < ys.length) (h1 : ys.length < 1073741824) :
    ∃ (y : PyData) (xs' : List PyData), rn (k + 2) 7 [.own xs, d] = some (.p y, [.own xs', d]) ∧ TP xs' ∧ y ∈ ys := by
  obtain ⟨r, xs', e, ht, g1, g2⟩ := draw_k k h ys.length (by omega) (by omega)
  obtain ⟨y, e2, hy⟩ := at_mem g1 g2
  refine ⟨y, xs', ?_, ht, hy⟩
  rw [r_pick]
  cases d with
  | p x => cases hd; simp [b__law_pick, e, e2]
  | own x => cases hd; simp [b__law_pick, e, e2]
theorem pop_at {xs : List PyData} {i : Int} (h0 : 0 ≤ i) (h : i < xs.length) (h2 : xs.length < 1073741824) : ∃ y, mthS .popAt xs [.int i] = some (y, xs.eraseIdx i.toNat) ∧ y ∈ xs ∧ (xs.eraseIdx i.toNat).length + 1 = xs.length ∧ ∀ z ∈ xs.eraseIdx i.toNat, z ∈ xs := by
  refine ⟨xs[i.toNat], ?_, List.getElem_mem _, ?_, fun z hz => List.mem_of_mem_eraseIdx hz⟩
  · show (if (decide (-(2 ^ 63) ≤ i) && decide (i < 2 ^ 63)) = true then (L2.ixN xs.length i).bind fun k => (xs[k]?).map fun y => (y, xs.eraseIdx k) else none) = _
    rw [if_pos (by simp; omega)]
    unfold L2.ixN
    rw [if_pos h0, if_pos h]
    simp
  · rw [List.length_eraseIdx_of_lt (by omega)]
    omega
def shuf : S := (.seq (.exp (.meth .append 3 (.cons (.meth .popAt 2 (.cons (.call 6 (.cons (.var 0) (.cons (.blt .len (.cons (.var 2) .nil)) .nil))) .nil)) .nil))) .done)
theorem shuf_ok (xs : List PyData) (h : TP xs) (d : D) (rows : List PyData) (hr : rows.length < 1000000) :
    ∃ xs' out o4 left, forL (fun ρ x => asgT ρ (.nm 4) x) (ex (rn (k + 1)) G shuf) (rngL 0 rows.length) [some (.own xs), some d, some (.own rows), some (.own []), none] = some (.nx [some (.own xs'), some d, some (.own left), some (.own out), o4]) ∧ TP xs' ∧ out.length = rows.length ∧ ∀ y ∈ out, y ∈ rows := by
  obtain ⟨ρ', e, xs', left, out, o4, rfl, h1, h2, h3, h4⟩ := forL_all (tgt := fun ρ x => asgT ρ (.nm 4) x) (body := ex (rn (k + 1)) G shuf) (items := rngL 0 rows.length) (ρ := [some (.own xs), some d, some (.own rows), some (.own []), none])
    (fun i ρ => ∃ xs' left out o4, ρ = [some (.own xs'), some d, some (.own left), some (.own out), o4] ∧ TP xs' ∧ left.length + i = rows.length ∧ (out.length = i ∧ ∀ y ∈ out, y ∈ rows) ∧ ∀ y ∈ left, y ∈ rows)
    ⟨xs, rows, [], none, rfl, h, rfl, ⟨rfl, fun _ h => nomatch h⟩, fun _ h => h⟩ (by
      rintro i x ρ hx ⟨xs', left, out, o4, rfl, h1, h2, ⟨h3, h3'⟩, h4⟩
      have hi : i < rows.length := by
        have := (List.getElem?_eq_some_iff.mp hx).1
        rw [rng_len] at this
        omega
      obtain ⟨r, xs2, e, ht, g1, g2⟩ := draw_k k h1 left.length (by omega) (by omega)
      obtain ⟨y, e2, m1, m2, m3⟩ := pop_at g1 g2 (by omega)
      refine ⟨_, [some (.own xs2), some d, some (.own (left.eraseIdx r.toNat)), some (.own (out ++ [y])), some (.p x)], rfl, ?_, xs2, _, _, _, rfl, ht, by omega, ⟨by simp; omega, ?_⟩, fun y hy => h4 y (m3 y hy)⟩
      · have ho : out.length < 16777216 := by omega
        simp [shuf, e, e2, ho]
      · intro z hz
        rcases List.mem_append.mp hz with hz | hz
        · exact h3' z hz
        · rw [List.mem_singleton.mp hz]
          exact h4 y m1)
  refine ⟨xs', out, o4, left, e, h1, ?_, h3.2⟩
  rw [h3.1, rng_len]
  omega
theorem r_order (a b : D) : rn (k + 1) 10 [a, b] = if lkOk [0, 1] 0 [a, b] = true then outS 2 [a, b] (ex (rn k) G b__law_order [some a, some b, none, none, none]) else none := rfl
theorem it_len (n : Nat) (h : n < 1000000) : itemsOf .rng1 [.int n] = some (rngL 0 n) := by
  simp [itemsOf]
  omega
theorem order_ok (xs : List PyData) (h : TP xs) (rows : List PyData) (hr : rows.length < 1000000) :
    ∃ xs' out, rn (k + 2) 10 [.own xs, .p (.list rows)] = some (.own out, [.own xs', .p (.list rows)]) ∧ TP xs' ∧ out.length = rows.length ∧ ∀ y ∈ out, y ∈ rows := by
  obtain ⟨xs', out, o4, left, e, h1, h2, h3⟩ := shuf_ok k xs h (.p (.list rows)) rows hr
  refine ⟨xs', out, ?_, h1, h2, h3⟩
  rw [r_order, show b__law_order = (.seq (.set 2 (.blt .list (.cons (.var 1) .nil))) (.seq (.set 3 (.lst .nil)) (.seq (.for_ (.nm 4) .rng1 (.cons (.blt .len (.cons (.var 1) .nil)) .nil) shuf) (.seq (.ret (.mov 3)) .done)))) from rfl]
  have e3 := it_len rows.length hr
  simp only [asg_nm] at e
  simp -implicitDefEqProofs [e, e3]
theorem r_turns (a b : D) : rn (k + 1) 8 [a, b] = if lkOk [0, 1] 0 [a, b] = true then outS 2 [a, b] (ex (rn k) G b__law_turns [some a, some b, none, none, none]) else none := rfl
theorem turns_ok (xs : List PyData) (h : TP xs) :
    ∃ xs' out, rn (k + 2) 8 [.own xs, .p (.int 3)] = some (.own out, [.own xs', .p (.int 3)]) ∧ TP xs' ∧ ∀ y ∈ out, y ∈ rngL 0 3 := by
  obtain ⟨xs', out, o4, left, e, h1, h2, h3⟩ := shuf_ok k xs h (.p (.int 3)) (rngL 0 3) (by decide)
  obtain ⟨r, xs2, e2, ht, g1, g2⟩ := draw_k k h1 3 (by decide) (by decide)
  have e3 : rngS [.int 3] = some (rngL 0 3) := rfl
  have e4 : itemsOf .rng1 [.int 3] = some (rngL 0 ((rngL 0 3).length : Nat)) := rfl
  simp only [asg_nm] at e
  obtain ⟨z, e5, hz⟩ : ∃ z, L2.atI [PyData.int 3, .int 3, .int 1] r = some (.int z) ∧ True := by
    have : r = 0 ∨ r = 1 ∨ r = 2 := by omega
    rcases this with rfl | rfl | rfl <;> simp
  refine ⟨xs2, cutS out none (some z), ?_, ht, fun y hy => h3 y (List.mem_of_mem_drop (List.mem_of_mem_take hy))⟩
  rw [r_turns, show b__law_turns = (.seq (.set 2 (.lrg1 (.var 1))) (.seq (.set 3 (.lst .nil)) (.seq (.for_ (.nm 4) .rng1 (.cons (.var 1) .nil) shuf) (.seq (.ret (.sl (.var 3) .nil (.ix (.lst (.cons (.var 1) (.cons (.var 1) (.cons (.con (.int 1)) .nil)))) (.call 6 (.cons (.var 0) (.cons (.con (.int 3)) .nil)))))) .done)))) from rfl]
  have e6 : ∀ ρ, partI (ev (rn (k + 1)) G (.ix (.lst (.cons (.var 1) (.cons (.var 1) (.cons (.con (.int 1)) .nil)))) (.call 6 (.cons (.var 0) (.cons (.con (.int 3)) .nil))))) ρ = _ := fun ρ => partI_some rfl ρ
  simp -implicitDefEqProofs [e, e2, e3, e4, e5, e6, slS, -ev_ix]
  simp -implicitDefEqProofs [e, e2, e3, e4, e5, slS]
end
end K93

set_option Elab.async false
set_option linter.all false
set_option maxRecDepth 100000
set_option maxHeartbeats 400000
namespace K93
open PySem Pv
section
variable (k : Nat)
theorem r_places (a : D) : rn (k + 1) 12 [a] = if lkOk [0] 0 [a] = true then outS 1 [a] (ex (rn k) G b__law_places [some a, none, none, none, none]) else none := rfl
def plb : S := (.seq (.set 2 (.bin .add (.bin .add (.var 2) (.con (.int 1))) (.call 6 (.cons (.var 0) (.cons (.var 1) .nil))))) (.seq (.exp (.meth .append 3 (.cons (.var 2) .nil))) .done))
theorem it_len' (n : Int) (h0 : 0 ≤ n) (h : n < 1000000) : itemsOf .rng1 [.int n] = some (rngL 0 n) := by
  simp [itemsOf]
  omega
theorem plb_ok (xs : List PyData) (h : TP xs) (most pl : Int) (m0 : 1 ≤ most) (m1 : most ≤ 12) (n : Int) (n0 : 0 ≤ n) (n1 : n ≤ 20) :
    ∃ (xs' : List PyData) (ps : List Int) (pl' : Int) (o4 : Option D), forL (fun ρ x => some (List.set ρ 4 (some (.p x)))) (ex (rn (k + 1)) G plb) (rngL 0 n) [some (.own xs), some (.p (.int most)), some (.p (.int pl)), some (.own []), none] = some (.nx [some (.own xs'), some (.p (.int most)), some (.p (.int pl')), some (.own (ps.map .int)), o4]) ∧ TP xs' ∧ ps.length ≤ 20 ∧ ps.Pairwise (· < ·) := by
  obtain ⟨ρ', e, xs', ps, pl', o4, rfl, h1, h2, h3, h4⟩ := forL_all (tgt := fun ρ x => some (List.set ρ 4 (some (.p x)))) (body := ex (rn (k + 1)) G plb) (items := rngL 0 n) (ρ := [some (.own xs), some (.p (.int most)), some (.p (.int pl)), some (.own []), none])
    (fun i ρ => ∃ (xs' : List PyData) (ps : List Int) (pl' : Int) (o4 : Option D), ρ = [some (.own xs'), some (.p (.int most)), some (.p (.int pl')), some (.own (ps.map .int)), o4] ∧ TP xs' ∧ ps.length = i ∧ ps.Pairwise (· < ·) ∧ ∀ q ∈ ps, q ≤ pl')
    ⟨xs, [], pl, none, rfl, h, rfl, .nil, fun _ h => nomatch h⟩ (by
      rintro i x ρ hx ⟨xs', ps, pl', o4, rfl, h1, h2, h3, h4⟩
      have hi : i < 20 := by
        have := (List.getElem?_eq_some_iff.mp hx).1
        rw [rng_len] at this
        omega
      obtain ⟨r, xs2, e, ht, g1, g2⟩ := draw_k k h1 most m0 (by omega)
      refine ⟨_, [some (.own xs2), some (.p (.int most)), some (.p (.int (pl' + 1 + r))), some (.own ((ps ++ [pl' + 1 + r]).map .int)), some (.p x)], rfl, ?_, xs2, _, _, _, rfl, ht, by simp [h2], ?_, ?_⟩
      · have ho : ps.length < 16777216 := by omega
        simp -implicitDefEqProofs [plb, e, ho]
      · rw [List.pairwise_append]
        refine ⟨h3, List.pairwise_singleton _ _, ?_⟩
        intro a ha b hb
        rw [List.mem_singleton.mp hb]
        have := h4 a ha
        omega
      · intro q hq
        rcases List.mem_append.mp hq with hq | hq
        · have := h4 q hq
          omega
        · rw [List.mem_singleton.mp hq]
          exact Int.le_refl _)
  refine ⟨xs', ps, pl', o4, e, h1, ?_, h3⟩
  rw [h2, rng_len]
  omega
theorem places_ok (xs : List PyData) (h : TP xs) :
    ∃ (ps : List Int) (xs' : List PyData), rn (k + 3) 12 [.own xs] = some (.p (eI ps), [.own xs']) ∧ TP xs' ∧ ps.length ≤ 20 ∧ ps.Pairwise (· < ·) := by
  obtain ⟨y, xs1, e1, t1, m1⟩ := pick_k k h (.p (.list [.int 1, .int 1, .int 2, .int 4, .int 12])) _ rfl (by decide) (by decide)
  obtain ⟨most, rfl, b1, b2⟩ : ∃ m : Int, y = .int m ∧ 1 ≤ m ∧ m ≤ 12 := by
    simp at m1
    rcases m1 with rfl | rfl | rfl | rfl <;> exact ⟨_, rfl, by decide, by decide⟩
  obtain ⟨r, xs2, e2, t2, g1, g2⟩ := draw_k (k + 1) t1 4 (by decide) (by decide)
  obtain ⟨y, xs3, e3, t3, m3⟩ := pick_k k t2 (.p (.list [.int 0, .int 0, .int 1, .int 2, .int 5, .int 20])) _ rfl (by decide) (by decide)
  obtain ⟨n, rfl, c1, c2⟩ : ∃ m : Int, y = .int m ∧ 0 ≤ m ∧ m ≤ 20 := by
    simp at m3
    rcases m3 with rfl | rfl | rfl | rfl | rfl <;> exact ⟨_, rfl, by decide, by decide⟩
  obtain ⟨xs4, ps, pl', o4, e4, t4, l4, p4⟩ := plb_ok (k + 1) xs3 t3 most (r - 1) b1 b2 n c1 c2
  refine ⟨ps, xs4, ?_, t4, l4, p4⟩
  have e5 := it_len' n c1 (by omega)
  rw [r_places, show b__law_places = (.seq (.set 1 (.call 7 (.cons (.var 0) (.cons (.lst (.cons (.con (.int 1)) (.cons (.con (.int 1)) (.cons (.con (.int 2)) (.cons (.con (.int 4)) (.cons (.con (.int 12)) .nil)))))) .nil)))) (.seq (.set 2 (.bin .sub (.call 6 (.cons (.var 0) (.cons (.con (.int 4)) .nil))) (.con (.int 1)))) (.seq (.set 3 (.lst .nil)) (.seq (.for_ (.nm 4) .rng1 (.cons (.call 7 (.cons (.var 0) (.cons (.lst (.cons (.con (.int 0)) (.cons (.con (.int 0)) (.cons (.con (.int 1)) (.cons (.con (.int 2)) (.cons (.con (.int 5)) (.cons (.con (.int 20)) .nil))))))) .nil))) .nil) plb) (.seq (.ret (.blt .tuple (.cons (.var 3) .nil))) .done))))) from rfl]
  simp -implicitDefEqProofs [e1, e2, e3, e4, e5, fold_eI]
theorem r_lates (a : D) : rn (k + 1) 13 [a] = if lkOk [0] 0 [a] = true then outS 1 [a] (ex (rn k) G b__law_lates [some a, none, none]) else none := rfl
theorem lates_ok (xs : List PyData) (h : TP xs) :
    ∃ (ls : List (Int × Int)) (xs' : List PyData), rn (k + 4) 13 [.own xs] = some (.p (eL ls), [.own xs']) ∧ TP xs' ∧ ls.length ≤ 20 ∧ ls.Pairwise (fun p q => p.1 < q.1) := by
  obtain ⟨ps, xs1, e1, t1, l1, p1⟩ := places_ok k xs h
  obtain ⟨acc, ρ2, e2, xs2, ls, o2, rfl, t2, rfl, h2⟩ := lcV_inv (tg := .nm 2) (it := .seq) (src := (ev (rn (k + 3)) G (.cons (.var 1) .nil)).ps) (ifs := ev (rn (k + 3)) G .nil) (elt := (ev (rn (k + 3)) G (.tup (.cons (.var 2) (.cons (.call 7 (.cons (.var 0) (.cons (.lst (.cons (.con (.int 1)) (.cons (.con (.int 2)) (.cons (.con (.int 9)) (.cons (.con (.int 10000)) (.cons (.bin .add (.con (.int 1)) (.call 6 (.cons (.var 0) (.cons (.con (.int 10000)) .nil)))) .nil)))))) .nil))) .nil)))).p) (own := [2])
    (ρ := [some (.own xs1), some (.p (eI ps)), none]) (ρ1 := [some (.own xs1), some (.p (eI ps)), none]) (xs := [eI ps]) (items := ps.map .int)
    (fun i acc ρ => ∃ (xs2 : List PyData) (ls : List (Int × Int)) (o2 : Option D), ρ = [some (.own xs2), some (.p (eI ps)), o2] ∧ TP xs2 ∧ acc = ls.map eP ∧ ls.map (·.1) = ps.take i)
    (by simp) rfl (by simp; omega) ⟨xs1, [], none, rfl, t1, rfl, rfl⟩ (by
      rintro i acc ρ ⟨xs2, ls, o2, rfl, _, rfl, h4⟩
      have := congrArg List.length h4
      simp at this ⊢
      omega) (by
      rintro i x acc ρ hx ⟨xs2, ls, o2, rfl, t2, rfl, h4⟩
      obtain ⟨hi, hx⟩ := List.getElem?_eq_some_iff.mp hx
      have hi : i < ps.length := by simpa using hi
      have hx : x = .int ps[i] := by rw [← hx]; simp
      subst hx
      obtain ⟨r, xs3, q1, u1, g1, g2⟩ := draw_k (k + 2) t2 10000 (by decide) (by decide)
      obtain ⟨y, xs4, q2, u2, m2⟩ := pick_k (k + 1) u1 (.p (.list [.int 1, .int 2, .int 9, .int 10000, .int (1 + r)])) _ rfl (by simp) (by simp)
      obtain ⟨z, rfl⟩ : ∃ z : Int, y = .int z := by
        simp at m2
        rcases m2 with rfl | rfl | rfl | rfl | rfl <;> exact ⟨_, rfl⟩
      refine ⟨_, true, [some (.own xs2), some (.p (eI ps)), some (.p (.int ps[i]))], rfl, rfl, (fun h => nomatch h), fun _ => ⟨.tuple [.int ps[i], .int z], [some (.own xs4), some (.p (eI ps)), some (.p (.int ps[i]))], ?_, xs4, ls ++ [(ps[i], z)], _, rfl, u2, by simp [eP], ?_⟩⟩
      · simp -implicitDefEqProofs [q1, q2]
      · rw [List.map_append, h4, List.take_succ_eq_append_getElem hi]
        rfl)
  rw [List.length_map, List.take_length] at h2
  refine ⟨ls, xs2, ?_, t2, ?_, ?_⟩
  · rw [r_lates]
    have e3 : (ev (rn (k + 3)) G (.lc (.nm 2) .seq (.cons (.var 1) .nil) .nil (.tup (.cons (.var 2) (.cons (.call 7 (.cons (.var 0) (.cons (.lst (.cons (.con (.int 1)) (.cons (.con (.int 2)) (.cons (.con (.int 9)) (.cons (.con (.int 10000)) (.cons (.bin .add (.con (.int 1)) (.call 6 (.cons (.var 0) (.cons (.con (.int 10000)) .nil)))) .nil)))))) .nil))) .nil))) [("place", 2)])).v [some (.own xs1), some (.p (eI ps)), none] = _ := e2
    simp -implicitDefEqProofs [b__law_lates, e1, e3, fold_eI, fold_eL]
  · have := congrArg List.length h2
    simp at this
    omega
  · rw [← h2] at p1
    exact List.pairwise_map.mp p1
end
end K93

set_option Elab.async false
set_option linter.all false
set_option maxRecDepth 100000
set_option maxHeartbeats 400000
namespace K93
open PySem Pv
section
variable (k : Nat)
theorem r_link (a : D) : rn (k + 1) 14 [a] = if lkOk [0] 0 [a] = true then outS 1 [a] (ex (rn k) G b__law_link [some a, none, none, none, none]) else none := rfl
def roomS : S := (.seq (.set 2 (.con (.int 0))) (.seq (.ite (.cmp .gt (.var 1) (.con (.int 0))) (.seq (.set 2 (.call 7 (.cons (.var 0) (.cons (.lst (.cons (.con (.int 1)) (.cons (.con (.int 1)) (.cons (.con (.int 2)) (.cons (.con (.int 3)) (.cons (.con (.int 5)) (.cons (.con (.int 19)) (.cons (.con (.int 20)) (.cons (.bin .add (.con (.int 1)) (.call 6 (.cons (.var 0) (.cons (.con (.int 20)) .nil)))) .nil))))))))) .nil)))) .done) .done) .done))
theorem room_ok (xs : List PyData) (h : TP xs) (every : Int) (h0 : 0 ≤ every) :
    ∃ (room : Int) (xs' : List PyData), ex (rn (k + 2)) G roomS [some (.own xs), some (.p (.int every)), none, none, none] = some (.nx [some (.own xs'), some (.p (.int every)), some (.p (.int room)), none, none]) ∧ TP xs' ∧ (every = 0 → room = 0) ∧ (0 < every → 1 ≤ room) ∧ room ≤ 20 := by
  by_cases he : every = 0
  · subst he
    exact ⟨0, xs, by simp -implicitDefEqProofs [roomS], h, fun _ => rfl, fun h => by omega, by decide⟩
  · have he : 0 < every := by omega
    obtain ⟨r, xs1, e1, t1, g1, g2⟩ := draw_k (k + 1) h 20 (by decide) (by decide)
    obtain ⟨y, xs2, e2, t2, m2⟩ := pick_k k t1 (.p (.list [.int 1, .int 1, .int 2, .int 3, .int 5, .int 19, .int 20, .int (1 + r)])) _ rfl (by simp) (by simp)
    obtain ⟨z, rfl, b1, b2⟩ : ∃ z : Int, y = .int z ∧ 1 ≤ z ∧ z ≤ 20 := by
      simp at m2
      rcases m2 with rfl | rfl | rfl | rfl | rfl | rfl | rfl <;> exact ⟨_, rfl, by omega, by omega⟩
    exact ⟨z, xs2, by simp -implicitDefEqProofs [roomS, he, e1, e2], t2, fun h => by omega, fun _ => b1, b2⟩
theorem ex_assoc (C : Fns) (a b c d : S) (ρ : EV) : ex C G (.seq a (.seq b (.seq c d))) ρ = (ex C G a ρ).bind (nxt fun ρ => (ex C G (.seq b (.seq c .done)) ρ).bind (nxt (ex C G d))) := by
  rw [ex_seq]
  congr 1
  congr 1
  funext ρ
  simp only [ex_seq]
  cases ex C G b ρ with
  | none => rfl
  | some o =>
    cases o with
    | nx ρ1 =>
      simp only [Option.bind_some, nxt_nx, ex_seq]
      cases ex C G c ρ1 with
      | none => rfl
      | some o => cases o <;> rfl
    | ret d ρ1 => rfl
    | bk ρ1 => rfl
    | ct ρ1 => rfl
theorem link_ok (xs : List PyData) (h : TP xs) : ∃ (l : Link) (xs' : List PyData), rn (k + 5) 14 [.own xs] = some (.p l.enc, [.own xs']) ∧ l.WF ∧ TP xs' := by
  obtain ⟨r1, xs1, e1, t1, g1, g2⟩ := draw_k (k + 3) h 1000 (by decide) (by decide)
  obtain ⟨y, xs2, e2, t2, m2⟩ := pick_k (k + 2) t1 (.p (.list [.int 0, .int 1, .int 2, .int 3, .int 7, .int 50, .int 1000, .int (1 + r1)])) _ rfl (by simp) (by simp)
  obtain ⟨every, rfl, v1, v2⟩ : ∃ z : Int, y = .int z ∧ 0 ≤ z ∧ z ≤ 1000 := by
    simp at m2
    rcases m2 with rfl | rfl | rfl | rfl | rfl | rfl | rfl | rfl <;> exact ⟨_, rfl, by omega, by omega⟩
  obtain ⟨room, xs3, e3, t3, v3, v4, v5⟩ := room_ok (k + 2) xs2 t2 every v1
  obtain ⟨r4, xs4, e4, t4, _, _⟩ := draw_k (k + 3) t3 10000 (by decide) (by decide)
  obtain ⟨y, xs5, e5, t5, m5⟩ := pick_k (k + 2) t4 (.p (.list [.int 1, .int 2, .int 5, .int 30, .int 10000, .int (1 + r4)])) _ rfl (by simp) (by simp)
  obtain ⟨slow, rfl⟩ : ∃ z : Int, y = .int z := by
    simp at m5
    rcases m5 with rfl | rfl | rfl | rfl | rfl | rfl <;> exact ⟨_, rfl⟩
  obtain ⟨a, xs6, e6, t6, _, _⟩ := draw_k (k + 3) t5 100 (by decide) (by decide)
  obtain ⟨b, xs7, e7, t7, _, _⟩ := draw_k (k + 3) t6 100 (by decide) (by decide)
  obtain ⟨ps, xs8, e8, t8, l8, p8⟩ := places_ok (k + 1) xs7 t7
  obtain ⟨qs, xs9, e9, t9, l9, p9⟩ := places_ok (k + 1) xs8 t8
  obtain ⟨ls, xs10, e10, t10, l10, p10⟩ := lates_ok k xs9 t9
  refine ⟨⟨a, b, slow, every, room, ps, qs, ls⟩, xs10, ?_, ⟨v1, v2, v3, v4, v5, l8, l9, l10, p10⟩, t10⟩
  rw [r_link, b__law_link, ex_assoc]
  have e3' : ex (rn (k + 4)) G _ _ = _ := e3
  unfold roomS at e3'
  generalize S.seq (.set 2 (.con (.int 0))) _ = st at e3' ⊢
  simp -implicitDefEqProofs [e1, e2, e3', e4, e5, e6, e7, e8, e9, e10, Link.enc]
@[simp] theorem sl_a (l : Link) : slS l.enc none (some 2) = some (.p (.tuple [.int l.a, .int l.b])) := rfl
@[simp] theorem sl_b (l : Link) : slS l.enc (some 3) none = some (.p (.tuple [.int l.every, .int l.room, eI l.drops, eI l.doubles, eL l.lates])) := rfl
@[simp] theorem sl_c (l : Link) : slS l.enc none (some 4) = some (.p (.tuple [.int l.a, .int l.b, .int l.slow, .int l.every])) := rfl
@[simp] theorem sl_d (l : Link) : slS l.enc (some 5) none = some (.p (.tuple [eI l.drops, eI l.doubles, eL l.lates])) := rfl
@[simp] theorem sl_e (l : Link) : slS l.enc none (some 6) = some (.p (.tuple [.int l.a, .int l.b, .int l.slow, .int l.every, .int l.room, eI l.drops])) := rfl
@[simp] theorem sl_f (l : Link) : slS l.enc (some 7) none = some (.p (.tuple [eL l.lates])) := rfl
@[simp] theorem sl_g (l : Link) : slS l.enc none (some 7) = some (.p (.tuple [.int l.a, .int l.b, .int l.slow, .int l.every, .int l.room, eI l.drops, eI l.doubles])) := rfl
@[simp] theorem sl_h (l : Link) : slS l.enc none (some 5) = some (.p (.tuple [.int l.a, .int l.b, .int l.slow, .int l.every, .int l.room])) := rfl
@[simp] theorem sl_i (l : Link) : slS l.enc (some 6) none = some (.p (.tuple [eI l.doubles, eL l.lates])) := rfl
@[simp] theorem part_mk (v : EV → Option (D × EV)) (ρ : EV) : partI (mkV v) ρ = (v ρ).bind fun (d, ρ1) => match d with
  | .p (.int i) => some (some i, ρ1)
  | _ => none := rfl
theorem r_bent (a b : D) : rn (k + 1) 15 [a, b] = if lkOk [0, 1] 0 [a, b] = true then outS 2 [a, b] (ex (rn k) G b__law_bent_link [some a, some b, none]) else none := rfl
theorem bent_ok (xs : List PyData) (h : TP xs) (l : Link) (hl : l.WF) : ∃ (l' : Link) (xs' : List PyData), rn (k + 5) 15 [.own xs, .p l.enc] = some (.p l'.enc, [.own xs', .p l.enc]) ∧ l'.WF ∧ TP xs' := by
  obtain ⟨r, xs1, e1, t1, g1, g2⟩ := draw_k (k + 3) h 5 (by decide) (by decide)
  rw [r_bent, b__law_bent_link]
  have okd : okDiv 2 = true := rfl
  by_cases h0 : r = 0
  · subst h0
    obtain ⟨y, xs2, e2, t2, m2⟩ := pick_k (k + 2) t1 (.p (.list [.int 1, .int 10000, .int (l.slow.fdiv 2 + 1)])) _ rfl (by simp) (by simp)
    obtain ⟨z, rfl⟩ : ∃ z : Int, y = .int z := by
      simp at m2
      rcases m2 with rfl | rfl | rfl <;> exact ⟨_, rfl⟩
    refine ⟨{ l with slow := z }, xs2, ?_, ⟨hl.1, hl.2, hl.3, hl.4, hl.5, hl.6, hl.7, hl.8, hl.9⟩, t2⟩
    simp -implicitDefEqProofs [e1, e2, okd]
    simp -implicitDefEqProofs [Link.enc]
  · by_cases h1 : r = 1 ∧ 0 < l.room ∧ l.room < 20
    · obtain ⟨rfl, h2, h3⟩ := h1
      refine ⟨{ l with room := l.room + 1 }, xs1, ?_, ⟨hl.1, hl.2, ?_, ?_, ?_, hl.6, hl.7, hl.8, hl.9⟩, t1⟩
      · simp -implicitDefEqProofs [e1, h2, h3]
        simp -implicitDefEqProofs [Link.enc]
      · intro he
        have := hl.3 he
        omega
      · intro he
        simp only
        omega
      · simp only
        omega
    · have tst : ∀ o, (ev (rn (k + 4)) G (.andE (.cmp .eq (.var 2) (.con (.int 1))) (.andE (.cmp .lt (.con (.int 0)) (.ix (.var 1) (.con (.int 4)))) (.cmp .lt (.ix (.var 1) (.con (.int 4))) (.con (.int 20)))))).t [o, some (.p l.enc), some (.p (.int r))] = some (false, [o, some (.p l.enc), some (.p (.int r))]) := by
        intro o
        by_cases a : r = 1
        · by_cases b : 0 < l.room
          · by_cases c : l.room < 20
            · exact (h1 ⟨a, b, c⟩).elim
            · simp -implicitDefEqProofs [a, b, c]
          · simp -implicitDefEqProofs [a, b]
        · simp -implicitDefEqProofs [a]
      generalize (E.andE (.cmp .eq (.var 2) (.con (.int 1))) _) = te at tst ⊢
      obtain ⟨ps, xs2, e2, t2, l2, p2⟩ := places_ok (k + 1) xs1 t1
      obtain ⟨ls, xs3, e3, t3, l3, p3⟩ := lates_ok k xs1 t1
      by_cases h2 : r = 2
      · subst h2
        refine ⟨{ l with doubles := ps }, xs2, ?_, ⟨hl.1, hl.2, hl.3, hl.4, hl.5, hl.6, l2, hl.8, hl.9⟩, t2⟩
        simp -implicitDefEqProofs [e1, e2, tst]
        simp -implicitDefEqProofs [Link.enc]
      · by_cases h3 : r = 3
        · subst h3
          refine ⟨{ l with lates := ls }, xs3, ?_, ⟨hl.1, hl.2, hl.3, hl.4, hl.5, hl.6, hl.7, l3, p3⟩, t3⟩
          simp -implicitDefEqProofs [e1, e3, tst]
          simp -implicitDefEqProofs [Link.enc]
        · refine ⟨{ l with drops := ps }, xs2, ?_, ⟨hl.1, hl.2, hl.3, hl.4, hl.5, l2, hl.7, hl.8, hl.9⟩, t2⟩
          simp -implicitDefEqProofs [e1, e2, tst, h0, h2, h3]
          simp -implicitDefEqProofs [Link.enc]
end
end K93

set_option Elab.async false
set_option linter.all false
set_option maxRecDepth 100000
set_option maxHeartbeats 400000
namespace K93
open PySem Pv
section
variable (k : Nat)
theorem r_later (a b c d : D) : rn (k + 1) 16 [a, b, c, d] = if lkOk [0, 1, 2, 3] 0 [a, b, c, d] = true then outS 4 [a, b, c, d] (ex (rn k) G b__law_later [some a, some b, some c, some d, none]) else none := rfl
def lt1 : S := (.ite (.cmp .gt (.blt .len (.cons (.ix (.var 2) (.con (.int 2))) .nil)) (.con (.int 0))) (.seq (.exp (.meth .append 4 (.cons (.bin .sub (.bin .add (.call 7 (.cons (.var 0) (.cons (.blt .list (.cons (.ix (.var 2) (.con (.int 2))) .nil)) .nil))) (.call 6 (.cons (.var 0) (.cons (.con (.int 3)) .nil)))) (.con (.int 1))) .nil))) .done) .done)
def lt2 : S := (.ite (.cmp .notN (.ix (.var 2) (.con (.int 1))) (.con .none)) (.seq (.exp (.meth .append 4 (.cons (.bin .sub (.bin .add (.bin .add (.ix (.var 2) (.con (.int 1))) (.ix (.var 1) (.con (.int 3)))) (.call 6 (.cons (.var 0) (.cons (.con (.int 3)) .nil)))) (.con (.int 1))) .nil))) .done) .done)
theorem mem_int {ts : List Int} {y : PyData} (h : y ∈ ts.map PyData.int) : ∃ z : Int, y = .int z := by
  obtain ⟨z, -, rfl⟩ := List.mem_map.mp h
  exact ⟨z, rfl⟩
theorem lt1_ok (xs : List PyData) (h : TP xs) (l : Link) (s : St) (hs : s.waiting.length ≤ 999) (now : Int) (ts : List Int) (h1 : 0 < ts.length) (h2 : ts.length ≤ 5) :
    ∃ (ts' : List Int) (xs' : List PyData), ex (rn (k + 2)) G lt1 [some (.own xs), some (.p l.enc), some (.p s.enc), some (.p (.int now)), some (.own (ts.map .int))] = some (.nx [some (.own xs'), some (.p l.enc), some (.p s.enc), some (.p (.int now)), some (.own (ts'.map .int))]) ∧ TP xs' ∧ 0 < ts'.length ∧ ts'.length ≤ 6 := by
  by_cases hw : 0 < s.waiting.length
  · obtain ⟨y, xs1, e1, t1, m1⟩ := pick_k k h (.p (.list (s.waiting.map .int))) _ rfl (by simpa using hw) (by simp; omega)
    obtain ⟨z, rfl⟩ := mem_int m1
    obtain ⟨r, xs2, e2, t2, _, _⟩ := draw_k (k + 1) t1 3 (by decide) (by decide)
    have ho : ts.length < 16777216 := by omega
    have hw' : (0 : Int) < s.waiting.length := by omega
    refine ⟨ts ++ [z + r - 1], xs2, ?_, t2, by simp, by simp; omega⟩
    simp -implicitDefEqProofs [lt1, hw, hw', e1, e2, ho]
  · have hw' : ¬ (0 : Int) < s.waiting.length := by omega
    have hw2 : s.waiting.length = 0 := by omega
    refine ⟨ts, xs, ?_, h, h1, by omega⟩
    simp -implicitDefEqProofs [lt1, hw', hw2]
theorem lt2_ok (xs : List PyData) (h : TP xs) (l : Link) (s : St) (now : Int) (ts : List Int) (h1 : 0 < ts.length) (h2 : ts.length ≤ 6) :
    ∃ (ts' : List Int) (xs' : List PyData), ex (rn (k + 2)) G lt2 [some (.own xs), some (.p l.enc), some (.p s.enc), some (.p (.int now)), some (.own (ts.map .int))] = some (.nx [some (.own xs'), some (.p l.enc), some (.p s.enc), some (.p (.int now)), some (.own (ts'.map .int))]) ∧ TP xs' ∧ 0 < ts'.length ∧ ts'.length ≤ 7 := by
  cases hl : s.last with
  | none =>
    refine ⟨ts, xs, ?_, h, h1, by omega⟩
    simp -implicitDefEqProofs [lt2, hl, eO]
  | some y =>
    obtain ⟨r, xs2, e2, t2, _, _⟩ := draw_k (k + 1) h 3 (by decide) (by decide)
    have ho : ts.length < 16777216 := by omega
    refine ⟨ts ++ [y + l.every + r - 1], xs2, ?_, t2, by simp, by simp; omega⟩
    simp -implicitDefEqProofs [lt2, hl, eO, e2, ho]
theorem later_ok (xs : List PyData) (h : TP xs) (l : Link) (hl : l.WF) (s : St) (hs : s.waiting.length ≤ 999) (now : Int) :
    ∃ (now' : Int) (xs' : List PyData), rn (k + 3) 16 [.own xs, .p l.enc, .p s.enc, .p (.int now)] = some (.p (.int now'), [.own xs', .p l.enc, .p s.enc, .p (.int now)]) ∧ TP xs' := by
  have v0 := hl.every0
  have v1 := hl.every1
  obtain ⟨r1, xs1, e1, t1, _, _⟩ := draw_k (k + 1) h (l.every + 2) (by omega) (by omega)
  obtain ⟨r2, xs2, e2, t2, _, _⟩ := draw_k (k + 1) t1 20000 (by decide) (by decide)
  obtain ⟨ts3, xs3, e3, t3, g3, g3'⟩ := lt1_ok k xs2 t2 l s hs now [now, now, now + 1, now + r1, now + r2] (by simp) (by simp)
  obtain ⟨ts4, xs4, e4, t4, g4, g4'⟩ := lt2_ok k xs3 t3 l s now ts3 g3 g3'
  obtain ⟨y, xs5, e5, t5, m5⟩ := pick_k k t4 (.own (ts4.map .int)) _ rfl (by simpa using g4) (by simp; omega)
  obtain ⟨z, rfl⟩ := mem_int m5
  refine ⟨if 1000000 < (if z > now then z else now) then 1000000 else (if z > now then z else now), xs5, ?_, t5⟩
  · rw [r_later, show b__law_later = (.seq (.set 4 (.lst (.cons (.var 3) (.cons (.var 3) (.cons (.bin .add (.var 3) (.con (.int 1))) (.cons (.bin .add (.var 3) (.call 6 (.cons (.var 0) (.cons (.bin .add (.ix (.var 1) (.con (.int 3))) (.con (.int 2))) .nil)))) (.cons (.bin .add (.var 3) (.call 6 (.cons (.var 0) (.cons (.con (.int 20000)) .nil)))) .nil))))))) (.seq lt1 (.seq lt2 (.seq (.ret (.blt .min (.cons (.blt .max (.cons (.var 3) (.cons (.call 7 (.cons (.var 0) (.cons (.var 4) .nil))) .nil))) (.cons (.con (.int 1000000)) .nil)))) .done)))) from rfl]
    simp only [List.map_cons, List.map_nil] at e3
    simp -implicitDefEqProofs [e1, e2, e3, e4, e5]
theorem r_run (a b c : D) : rn (k + 1) 17 [a, b, c] = if lkOk [0, 1, 2] 0 [a, b, c] = true then outS 3 [a, b, c] (ex (rn k) G b__law_run [some a, some b, some c, none, none, none, none]) else none := rfl
def runS : S := (.seq (.exp (.meth .append 5 (.cons (.tup (.cons (.var 1) (.cons (.var 3) (.cons (.var 4) .nil)))) .nil))) (.seq (.set 3 (.ix (.call 11 (.cons (.var 1) (.cons (.var 3) (.cons (.var 4) .nil)))) (.con (.int 0)))) (.seq (.set 4 (.call 16 (.cons (.var 0) (.cons (.var 1) (.cons (.var 3) (.cons (.var 4) .nil)))))) .done)))
def Row (l : Link) (y : PyData) : Prop := ∃ (s : St) (now : Int), y = .tuple [l.enc, s.enc, .int now] ∧ s.waiting.length ≤ 999
theorem run_ok (xs : List PyData) (h : TP xs) (l : Link) (hl : l.WF) (many : Int) (m0 : 0 ≤ many) (m1 : many ≤ 40) :
    ∃ (rows : List PyData) (xs' : List PyData), rn (k + 4) 17 [.own xs, .p l.enc, .p (.int many)] = some (.own rows, [.own xs', .p l.enc, .p (.int many)]) ∧ TP xs' ∧ rows.length = many.toNat ∧ ∀ y ∈ rows, Row l y := by
  obtain ⟨now, xs1, e1, t1, _, _⟩ := draw_k (k + 2) h 100000 (by decide) (by decide)
  obtain ⟨ρ', e, xs', s, now', rows, o6, rfl, h1, h2, ⟨h3, h4⟩⟩ := forL_all (tgt := fun ρ x => some (List.set ρ 6 (some (.p x)))) (body := ex (rn (k + 3)) G runS) (items := rngL 0 many) (ρ := [some (.own xs1), some (.p l.enc), some (.p (.int many)), some (.p (St.enc ⟨0, none, []⟩)), some (.p (.int now)), some (.own []), none])
    (fun i ρ => ∃ (xs' : List PyData) (s : St) (now' : Int) (rows : List PyData) (o6 : Option D), ρ = [some (.own xs'), some (.p l.enc), some (.p (.int many)), some (.p s.enc), some (.p (.int now')), some (.own rows), o6] ∧ TP xs' ∧ s.waiting.length ≤ i ∧ rows.length = i ∧ ∀ y ∈ rows, Row l y)
    ⟨xs1, _, now, [], none, rfl, t1, Nat.le_refl _, rfl, fun _ h => nomatch h⟩ (by
      rintro i x ρ hx ⟨xs', s, now', rows, o6, rfl, h1, h2, h3, h4⟩
      have hi : i < 40 := by
        have := (List.getElem?_eq_some_iff.mp hx).1
        rw [rng_len] at this
        omega
      have q1 := handed_ok (k + 1) l hl s (by omega) now'
      have q2 := (handed_len l s now').1
      obtain ⟨now2, xs2, q3, u3⟩ := later_ok k xs' h1 l hl (handed l s now').1 (by omega) now'
      refine ⟨_, [some (.own xs2), some (.p l.enc), some (.p (.int many)), some (.p (handed l s now').1.enc), some (.p (.int now2)), some (.own (rows ++ [.tuple [l.enc, s.enc, .int now']])), some (.p x)], rfl, ?_, xs2, _, _, _, _, rfl, u3, by omega, by simp [h3], ?_⟩
      · have ho : rows.length < 16777216 := by omega
        simp -implicitDefEqProofs [runS, q1, q3, ho]
      · intro y hy
        rcases List.mem_append.mp hy with hy | hy
        · exact h4 y hy
        · rw [List.mem_singleton.mp hy]
          exact ⟨s, now', rfl, by omega⟩)
  have e5 := it_len' many m0 (by omega)
  refine ⟨rows, xs', ?_, h1, ?_, h4⟩
  · rw [r_run, show b__law_run = (.seq (.set 3 (.tup (.cons (.con (.int 0)) (.cons (.con .none) (.cons (.tup .nil) .nil))))) (.seq (.set 4 (.call 6 (.cons (.var 0) (.cons (.con (.int 100000)) .nil)))) (.seq (.set 5 (.lst .nil)) (.seq (.for_ (.nm 6) .rng1 (.cons (.var 2) .nil) runS) (.seq (.ret (.mov 5)) .done))))) from rfl]
    simp only [St.enc, eO, eI, List.map_nil] at e
    have e' := e
    simp -implicitDefEqProofs [e1, e', e5]
  · rw [h3, rng_len]
    omega
end
end K93

set_option Elab.async false
set_option linter.all false
set_option maxRecDepth 100000
set_option maxHeartbeats 400000
namespace K93
open PySem Pv
def Link.bare (l : Link) : Link := { l with drops := [], doubles := [], lates := [] }
theorem bare_wf {l : Link} (h : l.WF) : l.bare.WF := ⟨h.1, h.2, h.3, h.4, h.5, Nat.zero_le _, Nat.zero_le _, Nat.zero_le _, .nil⟩
theorem step0 (l : Link) (s : St) (now : Int) (hw : s.waiting = []) (hl : leave l.bare s.last now = now) (he : 0 < l.every) (hr : 1 ≤ l.room) :
    handed l.bare s now = (⟨s.place + 1, some now, []⟩, [now + l.slow]) := by
  have hf : full l.bare [] = false := by
    show (decide (0 < l.every) && decide (l.room ≤ (([] : List Int).length : Nat))) = false
    simp
    omega
  have hf' : left s.waiting now = [] := by rw [hw]; rfl
  unfold handed
  dsimp only
  rw [hf', hf, hl]
  simp [Link.bare, more]
theorem stepS (l : Link) (s : St) (now : Int) (m : Nat) (h1 : s.last = some (now + m * l.every)) (h2 : s.waiting.length = m) (h3 : ∀ t ∈ s.waiting, now < t) (h4 : (m : Int) < l.room) (he : 0 < l.every) :
    handed l.bare s now = (⟨s.place + 1, some (now + (m + 1 : Nat) * l.every), s.waiting ++ [now + (m + 1 : Nat) * l.every]⟩, [now + (m + 1 : Nat) * l.every + l.slow]) := by
  have hf' : left s.waiting now = s.waiting := List.filter_eq_self.mpr fun t ht => by simpa using h3 t ht
  have hf : full l.bare s.waiting = false := by
    show (decide (0 < l.every) && decide (l.room ≤ (s.waiting.length : Nat))) = false
    simp
    omega
  have hm : 0 ≤ (m : Int) * l.every := Int.mul_nonneg (by omega) (by omega)
  have hx : (now + (m : Int) * l.every) + l.every = now + ((m + 1 : Nat) : Int) * l.every := by
    rw [Int.natCast_add, Int.add_mul]
    simp
    omega
  have hlv : leave l.bare s.last now = now + ((m + 1 : Nat) : Int) * l.every := by
    rw [h1]
    show (if 0 < l.every then (if now < (now + (m : Int) * l.every) + l.every then (now + (m : Int) * l.every) + l.every else now) else now) = _
    rw [if_pos he, hx, if_pos (by omega)]
  have hlt : now < now + ((m + 1 : Nat) : Int) * l.every := by omega
  unfold handed
  dsimp only
  rw [hf', hf, hlv]
  simp only [if_pos hlt]
  simp [Link.bare, more]
def RInv (l : Link) (now : Int) : Nat → St → Option D → Prop
  | 0, s, _ => s.waiting = [] ∧ leave l.bare s.last now = now
  | m + 1, s, o => ∃ r, o = some (.p (eR r)) ∧ s.waiting.length ≤ m + 1 ∧ (0 < l.every → s.last = some (now + m * l.every) ∧ s.waiting.length = m ∧ (∀ t ∈ s.waiting, now < t) ∧ r.2 = [now + m * l.every + l.slow])
theorem rinv_len {l : Link} {now : Int} : ∀ {i : Nat} {s : St} {o : Option D}, RInv l now i s o → s.waiting.length ≤ i
  | 0, s, o, h => by rw [h.1]; exact Nat.le_refl _
  | m + 1, s, o, ⟨_, _, h, _⟩ => h
theorem rinv_step {l : Link} (hl : l.WF) {now : Int} {i : Nat} {s : St} {o : Option D} (h : RInv l now i s o) (hi : (i : Int) < l.room + 1) : RInv l now (i + 1) (handed l.bare s now).1 (some (.p (eR (handed l.bare s now)))) := by
  have hlen := (handed_len l.bare s now).1
  have := rinv_len h
  refine ⟨_, rfl, by omega, fun he => ?_⟩
  have hr := hl.room1 he
  cases i with
  | zero =>
    rw [step0 l s now h.1 h.2 he hr]
    simp
  | succ m =>
    obtain ⟨r, -, -, h3⟩ := h
    obtain ⟨a1, a2, a3, -⟩ := h3 he
    rw [stepS l s now m a1 a2 a3 (by omega) he]
    refine ⟨rfl, by simp [a2], ?_, rfl⟩
    intro t ht
    rcases List.mem_append.mp ht with ht | ht
    · exact a3 t ht
    · rw [List.mem_singleton.mp ht]
      have : 0 < ((m + 1 : Nat) : Int) * l.every := Int.mul_pos (by omega) he
      omega
section
variable (k : Nat)
theorem r_reached (a b : D) : rn (k + 1) 18 [a, b] = if lkOk [0, 1] 0 [a, b] = true then outS 2 [a, b] (ex (rn k) G b__law_reached [some a, some b, none, none, none, none, none, none]) else none := rfl
def rcA : S := (.ite (.cmp .eq (.call 6 (.cons (.var 0) (.cons (.con (.int 2)) .nil))) (.con (.int 0))) (.seq (.set 3 (.tup (.cons (.call 6 (.cons (.var 0) (.cons (.con (.int 1000)) .nil))) (.cons (.var 4) (.cons (.tup .nil) .nil))))) (.seq (.set 4 (.bin .add (.bin .add (.var 4) (.ix (.var 1) (.con (.int 3)))) (.call 6 (.cons (.var 0) (.cons (.con (.int 3)) .nil))))) .done)) .done)
def rcB : S := (.seq (.set 6 (.call 0 (.cons (.var 2) (.cons (.var 3) (.cons (.var 4) .nil))))) (.seq (.set 7 (.call 11 (.cons (.var 2) (.cons (.var 3) (.cons (.var 4) .nil))))) (.seq (.ite (.nt (.call 9 (.cons (.var 6) (.cons (.var 7) .nil)))) (.seq (.ret (.con (.bool false))) .done) .done) (.seq (.set 3 (.ix (.var 7) (.con (.int 0)))) .done))))
def rcC : S := (.ite (.andE (.cmp .gt (.ix (.var 1) (.con (.int 3))) (.con (.int 0))) (.cmp .ne (.bin .sub (.ix (.ix (.var 6) (.con (.int 1))) (.con (.int 0))) (.var 4)) (.call 4 (.cons (.var 2) .nil)))) (.seq (.ret (.con (.bool false))) .done) .done)
def rcD : S := (.seq (.ret (.call 9 (.cons (.ix (.call 0 (.cons (.var 2) (.cons (.var 3) (.cons (.var 4) .nil)))) (.con (.int 1))) (.cons (.ix (.call 11 (.cons (.var 2) (.cons (.var 3) (.cons (.var 4) .nil)))) (.con (.int 1))) .nil)))) .done)
theorem rcA_ok (xs : List PyData) (h : TP xs) (l : Link) (hl : l.WF) (now : Int) :
    ∃ (s : St) (now' : Int) (xs' : List PyData), ex (rn (k + 1)) G rcA [some (.own xs), some (.p l.enc), some (.p l.bare.enc), some (.p (.tuple [.int 0, .none, .tuple []])), some (.p (.int now)), none, none, none] = some (.nx [some (.own xs'), some (.p l.enc), some (.p l.bare.enc), some (.p s.enc), some (.p (.int now')), none, none, none]) ∧ TP xs' ∧ RInv l now' 0 s none := by
  obtain ⟨r1, xs1, e1, t1, _, _⟩ := draw_k k h 2 (by decide) (by decide)
  by_cases hr : r1 = 0
  · subst hr
    obtain ⟨r2, xs2, e2, t2, _, _⟩ := draw_k k t1 1000 (by decide) (by decide)
    obtain ⟨r3, xs3, e3, t3, g3, _⟩ := draw_k k t2 3 (by decide) (by decide)
    refine ⟨⟨r2, some now, []⟩, now + l.every + r3, xs3, ?_, t3, rfl, ?_⟩
    · simp -implicitDefEqProofs [rcA, e1, e2, e3]
      simp [St.enc, eO, eI]
    · show (if 0 < l.every then (if now + l.every + r3 < now + l.every then now + l.every else now + l.every + r3) else now + l.every + r3) = _
      rw [if_neg (show ¬ (now + l.every + r3 < now + l.every) by omega)]
      split <;> rfl
  · refine ⟨⟨0, none, []⟩, now, xs1, ?_, t1, rfl, rfl⟩
    simp -implicitDefEqProofs [rcA, e1, hr]
    simp [St.enc, eO, eI]
theorem rcB_ok (xs : List PyData) (l : Link) (hl : l.WF) (s : St) (now : Int) (hs : RInv l now 0 s none) :
    ∃ (s' : St) (o5 o6 o7 : Option D) (n : Nat), forL (fun ρ x => some (List.set ρ 5 (some (.p x)))) (ex (rn (k + 4)) G rcB) (rngL 0 (l.room + 1)) [some (.own xs), some (.p l.enc), some (.p l.bare.enc), some (.p s.enc), some (.p (.int now)), none, none, none] = some (.nx [some (.own xs), some (.p l.enc), some (.p l.bare.enc), some (.p s'.enc), some (.p (.int now)), o5, o6, o7]) ∧ RInv l now n s' o6 ∧ n = (l.room + 1).toNat := by
  obtain ⟨ρ', e, s', o5, o6, o7, rfl, h1⟩ := forL_all (tgt := fun ρ x => some (List.set ρ 5 (some (.p x)))) (body := ex (rn (k + 4)) G rcB) (items := rngL 0 (l.room + 1)) (ρ := [some (.own xs), some (.p l.enc), some (.p l.bare.enc), some (.p s.enc), some (.p (.int now)), none, none, none])
    (fun i ρ => ∃ (s' : St) (o5 o6 o7 : Option D), ρ = [some (.own xs), some (.p l.enc), some (.p l.bare.enc), some (.p s'.enc), some (.p (.int now)), o5, o6, o7] ∧ RInv l now i s' o6)
    ⟨s, none, none, none, rfl, hs⟩ (by
      rintro i x ρ hx ⟨s, o5, o6, o7, rfl, h1⟩
      have hi : i < (l.room + 1).toNat := by
        have := (List.getElem?_eq_some_iff.mp hx).1
        rw [rng_len] at this
        omega
      have hr2 := hl.room2
      have hlen := rinv_len h1
      have q1 := hand_ok (k + 2) l.bare (bare_wf hl) s (by omega) now
      have q2 := handed_ok (k + 2) l.bare (bare_wf hl) s (by omega) now
      have q3 := handed_len l.bare s now
      have q4 := same_ok 3 k (eR (handed l.bare s now)) (nest_eR _ (by omega) (by omega))
      refine ⟨_, _, rfl, ?_, (handed l.bare s now).1, some (.p x), some (.p (eR (handed l.bare s now))), some (.p (eR (handed l.bare s now))), rfl, rinv_step hl h1 (by omega)⟩
      simp -implicitDefEqProofs [rcB, q1, q2, q4])
  exact ⟨s', o5, o6, o7, _, e, h1, by rw [rng_len]; omega⟩
theorem rcC_ok (xs : List PyData) (l : Link) (hl : l.WF) (s : St) (now : Int) (o5 o6 o7 : Option D) (n : Nat) (hs : RInv l now n s o6) (hn : n = (l.room + 1).toNat) :
    ex (rn (k + 1)) G rcC [some (.own xs), some (.p l.enc), some (.p l.bare.enc), some (.p s.enc), some (.p (.int now)), o5, o6, o7] = some (.nx [some (.own xs), some (.p l.enc), some (.p l.bare.enc), some (.p s.enc), some (.p (.int now)), o5, o6, o7]) := by
  have e0 := hl.every0
  by_cases he : 0 < l.every
  · have hr := hl.room1 he
    obtain ⟨m, rfl⟩ : ∃ m, n = m + 1 := ⟨n - 1, by omega⟩
    have hm : (m : Int) = l.room := by omega
    obtain ⟨r, rfl, _, h⟩ := hs
    obtain ⟨_, _, _, h2⟩ := h he
    have q := worst_ok k l.bare (bare_wf hl)
    have q' : l.bare.slow + l.bare.every * l.bare.room = l.slow + l.every * l.room := rfl
    rw [q'] at q
    have hz : now + l.room * l.every + l.slow - now = l.slow + l.every * l.room := by
      rw [Int.mul_comm l.room]
      omega
    rw [hm] at h2
    have h3 : ixS (eI r.2) (.int 0) = some (.int (now + l.room * l.every + l.slow)) := by
      rw [h2]
      rfl
    simp -implicitDefEqProofs [rcC, he, h3, q, hz]
  · simp -implicitDefEqProofs [rcC, he]
theorem rcD_ok (xs : List PyData) (l : Link) (hl : l.WF) (s : St) (hs : s.waiting.length ≤ 999) (now : Int) (o5 o6 o7 : Option D) :
    ex (rn (k + 4)) G rcD [some (.own xs), some (.p l.enc), some (.p l.bare.enc), some (.p s.enc), some (.p (.int now)), o5, o6, o7] = some (.ret (.p (.bool true)) [some (.own xs), some (.p l.enc), some (.p l.bare.enc), some (.p s.enc), some (.p (.int now)), o5, o6, o7]) := by
  have q1 := hand_ok (k + 2) l.bare (bare_wf hl) s hs now
  have q2 := handed_ok (k + 2) l.bare (bare_wf hl) s hs now
  have q3 := handed_len l.bare s now
  have q4 := same_ok 3 k (eI (handed l.bare s now).2) (nest_eI _ (by omega))
  simp -implicitDefEqProofs [rcD, q1, q2, q4]
theorem reached_ok (xs : List PyData) (h : TP xs) (l : Link) (hl : l.WF) : ∃ (xs' : List PyData), rn (k + 5) 18 [.own xs, .p l.enc] = some (.p (.bool true), [.own xs', .p l.enc]) ∧ TP xs' := by
  obtain ⟨now, xs1, e1, t1, _, _⟩ := draw_k (k + 3) h 100000 (by decide) (by decide)
  obtain ⟨s, now', xs2, e2, t2, i2⟩ := rcA_ok (k + 3) xs1 t1 l hl now
  obtain ⟨s', o5, o6, o7, n, e3, i3, hn⟩ := rcB_ok k xs2 l hl s now' i2
  have e4 := rcC_ok (k + 3) xs2 l hl s' now' o5 o6 o7 n i3 hn
  have hr2 := hl.room2
  have hlen := rinv_len i3
  have e5 := rcD_ok k xs2 l hl s' (by omega) now' o5 o6 o7
  refine ⟨xs2, ?_, t2⟩
  have hr0 : 0 ≤ l.room + 1 := by
    by_cases he : l.every = 0
    · rw [hl.room0 he]; decide
    · have := hl.every0
      have := hl.room1 (by omega)
      omega
  have e6 := it_len' (l.room + 1) hr0 (by omega)
  have eb : PyData.tuple [.int l.a, .int l.b, .int l.slow, .int l.every, .int l.room, .tuple [], .tuple [], .tuple []] = l.bare.enc := rfl
  rw [r_reached, show b__law_reached = (.seq (.set 2 (.bin .add (.sl (.var 1) .nil (.con (.int 5))) (.tup (.cons (.tup .nil) (.cons (.tup .nil) (.cons (.tup .nil) .nil)))))) (.seq (.set 3 (.tup (.cons (.con (.int 0)) (.cons (.con .none) (.cons (.tup .nil) .nil))))) (.seq (.set 4 (.call 6 (.cons (.var 0) (.cons (.con (.int 100000)) .nil)))) (.seq rcA (.seq (.for_ (.nm 5) .rng1 (.cons (.bin .add (.ix (.var 1) (.con (.int 4))) (.con (.int 1))) .nil) rcB) (.seq rcC rcD)))))) from rfl]
  simp -implicitDefEqProofs [e1, eb, e2, e3, e4, e5, e6]
end
end K93

set_option Elab.async false
set_option linter.all false
set_option maxRecDepth 100000
set_option maxHeartbeats 400000
namespace K93
open PySem Pv
section
variable (k : Nat)
theorem r_tape (a : D) : rn (k + 1) 5 [a] = if lkOk [0] 0 [a] = true then outS 1 [a] (ex (rn k) G b__law_tape [some a, none, none]) else none := rfl
def tpS : S := (.seq (.set 1 (.bin .mod (.blt .int (.cons (.bin .add (.bin .mul (.var 1) (.con (.int 31))) (.blt .abs (.cons (.blt .int (.cons (.var 2) .nil)) .nil))) .nil)) (.con (.int 2147483647)))) .done)
theorem tape_ok (ns : List Int) : ∃ xs, rn (k + 1) 5 [.p (.list (ns.map .int))] = some (.own xs, [.p (.list (ns.map .int))]) ∧ TP xs := by
  obtain ⟨ρ', e, t, o2, rfl⟩ := forL_all (tgt := fun ρ x => some (List.set ρ 2 (some (.p x)))) (body := ex (rn k) G tpS) (items := ns.map .int) (ρ := [some (.p (.list (ns.map .int))), some (.p (.int 7)), none])
    (fun i ρ => ∃ (t : Int) (o2 : Option D), ρ = [some (.p (.list (ns.map .int))), some (.p (.int t)), o2])
    ⟨7, none, rfl⟩ (by
      rintro i x ρ hx ⟨t, o2, rfl⟩
      obtain ⟨z, rfl⟩ := mem_int (List.mem_of_getElem? hx)
      refine ⟨_, [_, some (.p (.int ((t * 31 + if z < 0 then -z else z).fmod 2147483647))), some (.p (.int z))], rfl, ?_, _, _, rfl⟩
      simp -implicitDefEqProofs [tpS])
  refine ⟨[.list (ns.map .int), .int 0, .int 0, .int t], ?_, ns, 0, 0, t, rfl, by decide⟩
  rw [r_tape, show b__law_tape = (.seq (.set 1 (.con (.int 7))) (.seq (.for_ (.nm 2) .seq (.cons (.var 0) .nil) tpS) (.seq (.ret (.lst (.cons (.blt .list (.cons (.var 0) .nil)) (.cons (.con (.int 0)) (.cons (.con (.int 0)) (.cons (.var 1) .nil)))))) .done))) from rfl]
  simp -implicitDefEqProofs [e]
def RowW (y : PyData) : Prop := ∃ l : Link, l.WF ∧ Row l y
def in0 : S := (.seq (.ite (.nt (.call 9 (.cons (.call 0 (.cons (.ix (.var 6) (.con (.int 0))) (.cons (.ix (.var 6) (.con (.int 1))) (.cons (.ix (.var 6) (.con (.int 2))) .nil)))) (.cons (.call 11 (.cons (.ix (.var 6) (.con (.int 0))) (.cons (.ix (.var 6) (.con (.int 1))) (.cons (.ix (.var 6) (.con (.int 2))) .nil)))) .nil)))) (.seq (.ret (.con (.bool false))) .done) .done) .done)
def in1 : S := (.seq (.ite (.nt (.call 9 (.cons (.call 4 (.cons (.var 6) .nil)) (.cons (.bin .add (.ix (.var 6) (.con (.int 2))) (.bin .mul (.ix (.var 6) (.con (.int 3))) (.ix (.var 6) (.con (.int 4))))) .nil)))) (.seq (.ret (.con (.bool false))) .done) .done) .done)
theorem in0_ok (a b c d e f g h : Option D) (items : List PyData) (hi : ∀ y ∈ items, RowW y) (o6 : Option D) :
    ∃ o6', forL (fun ρ x => some (List.set ρ 6 (some (.p x)))) (ex (rn (k + 5)) G in0) items [a, b, c, d, e, f, o6, g, h] = some (.nx [a, b, c, d, e, f, o6', g, h]) := by
  obtain ⟨ρ', q, o6', rfl⟩ := forL_all (tgt := fun ρ x => some (List.set ρ 6 (some (.p x)))) (body := ex (rn (k + 5)) G in0) (items := items) (ρ := [a, b, c, d, e, f, o6, g, h])
    (fun i ρ => ∃ o6', ρ = [a, b, c, d, e, f, o6', g, h]) ⟨o6, rfl⟩ (by
      rintro i x ρ hx ⟨o, rfl⟩
      obtain ⟨l, hl, s, now, rfl, hs⟩ := hi x (List.mem_of_getElem? hx)
      have q1 := hand_ok (k + 3) l hl s hs now
      have q2 := handed_ok (k + 3) l hl s hs now
      have q3 := handed_len l s now
      have q4 := same_ok 3 (k + 1) (eR (handed l s now)) (nest_eR _ (by omega) (by omega))
      refine ⟨_, [a, b, c, d, e, f, some (.p (.tuple [l.enc, s.enc, .int now])), g, h], rfl, ?_, _, rfl⟩
      simp -implicitDefEqProofs [in0, q1, q2, q4])
  exact ⟨o6', q⟩
theorem in1_ok (a b c d e f g h : Option D) (items : List PyData) (hi : ∀ y ∈ items, ∃ l : Link, l.WF ∧ y = l.enc) (o6 : Option D) :
    ∃ o6', forL (fun ρ x => some (List.set ρ 6 (some (.p x)))) (ex (rn (k + 5)) G in1) items [a, b, c, d, e, f, o6, g, h] = some (.nx [a, b, c, d, e, f, o6', g, h]) := by
  obtain ⟨ρ', q, o6', rfl⟩ := forL_all (tgt := fun ρ x => some (List.set ρ 6 (some (.p x)))) (body := ex (rn (k + 5)) G in1) (items := items) (ρ := [a, b, c, d, e, f, o6, g, h])
    (fun i ρ => ∃ o6', ρ = [a, b, c, d, e, f, o6', g, h]) ⟨o6, rfl⟩ (by
      rintro i x ρ hx ⟨o, rfl⟩
      obtain ⟨l, hl, rfl⟩ := hi x (List.mem_of_getElem? hx)
      have q1 := worst_ok (k + 4) l hl
      have q4 := same_int (k + 4) (l.slow + l.every * l.room)
      have hr : inR l.every = true := by
        have h0 := hl.every0
        have h1 := hl.every1
        simp [inR]
        omega
      refine ⟨_, [a, b, c, d, e, f, some (.p l.enc), g, h], rfl, ?_, _, rfl⟩
      simp -implicitDefEqProofs [in1, q1, q4, hr])
  exact ⟨o6', q⟩
def dr : S := (.seq (.ite (.cmp .eq (.var 8) (.con (.int 0))) (.seq (.for_ (.nm 6) .seq (.cons (.bin .add (.var 7) (.sl (.var 7) .nil (.con (.int 1)))) .nil) in0) .done) .done) (.seq (.ite (.cmp .eq (.var 8) (.con (.int 1))) (.seq (.for_ (.nm 6) .seq (.cons (.lst (.cons (.var 2) (.cons (.var 3) (.cons (.var 2) .nil)))) .nil) in1) .done) .done) (.seq (.ite (.andE (.cmp .eq (.var 8) (.con (.int 2))) (.nt (.call 18 (.cons (.var 1) (.cons (.var 2) .nil))))) (.seq (.ret (.con (.bool false))) .done) .done) .done)))
theorem cut_sub {xs : List PyData} {lo hi : Option Int} {y : PyData} (h : y ∈ cutS xs lo hi) : y ∈ xs := List.mem_of_mem_drop (List.mem_of_mem_take h)
theorem cut_len (xs : List PyData) (lo hi : Option Int) : (cutS xs lo hi).length ≤ xs.length := by
  unfold cutS
  simp
  omega
theorem dr_ok (sc : D) (l b : Link) (hl : l.WF) (hb : b.WF) (rows twins : List PyData) (asked : List PyData) (ha : ∀ y ∈ asked, RowW y) (hn : asked.length ≤ 1000) (doors : List PyData) (hd : ∀ y ∈ doors, y ∈ rngL 0 3) (xs : List PyData) (h : TP xs) :
    ∃ (xs' : List PyData) (o6 o8 : Option D), forL (fun ρ x => some (List.set ρ 8 (some (.p x)))) (ex (rn (k + 5)) G dr) doors [some sc, some (.own xs), some (.p l.enc), some (.p b.enc), some (.own rows), some (.own twins), none, some (.own asked), none] =
      some (.nx [some sc, some (.own xs'), some (.p l.enc), some (.p b.enc), some (.own rows), some (.own twins), o6, some (.own asked), o8]) := by
  obtain ⟨ρ', q, xs', o6, o8, rfl, _⟩ := forL_all (tgt := fun ρ x => some (List.set ρ 8 (some (.p x)))) (body := ex (rn (k + 5)) G dr) (items := doors) (ρ := [some sc, some (.own xs), some (.p l.enc), some (.p b.enc), some (.own rows), some (.own twins), none, some (.own asked), none])
    (fun i ρ => ∃ (xs' : List PyData) (o6 o8 : Option D), ρ = [some sc, some (.own xs'), some (.p l.enc), some (.p b.enc), some (.own rows), some (.own twins), o6, some (.own asked), o8] ∧ TP xs') ⟨xs, none, none, rfl, h⟩ (by
      rintro i x ρ hx ⟨xs', o6, o8, rfl, h1⟩
      have hm := hd x (List.mem_of_getElem? hx)
      have hx3 : x = .int 0 ∨ x = .int 1 ∨ x = .int 2 := by
        obtain ⟨j, rfl, hj⟩ := rng_mem hm
        have : j = 0 ∨ j = 1 ∨ j = 2 := by
          simp at hj
          omega
        rcases this with rfl | rfl | rfl <;> simp
      rcases hx3 with rfl | rfl | rfl
      · have hc := cut_len asked none (some 1)
        obtain ⟨o6', e⟩ := in0_ok k (some sc) (some (.own xs')) (some (.p l.enc)) (some (.p b.enc)) (some (.own rows)) (some (.own twins)) (some (.own asked)) (some (.p (.int 0))) (asked ++ cutS asked none (some 1)) (by
          intro y hy
          rcases List.mem_append.mp hy with hy | hy
          · exact ha y hy
          · exact ha y (cut_sub hy)) o6
        refine ⟨_, _, rfl, ?_, xs', o6', some (.p (.int 0)), rfl, h1⟩
        have hlen : asked.length + (cutS asked none (some 1)).length ≤ 16777216 := by omega
        have es : slS (.list asked) none (some 1) = some (.own (cutS asked none (some 1))) := rfl
        simp -implicitDefEqProofs [dr, es, hlen, e]
      · obtain ⟨o6', e⟩ := in1_ok k (some sc) (some (.own xs')) (some (.p l.enc)) (some (.p b.enc)) (some (.own rows)) (some (.own twins)) (some (.own asked)) (some (.p (.int 1))) [l.enc, b.enc, l.enc] (by
          intro y hy
          simp at hy
          rcases hy with rfl | rfl | rfl
          · exact ⟨l, hl, rfl⟩
          · exact ⟨b, hb, rfl⟩
          · exact ⟨l, hl, rfl⟩) o6
        refine ⟨_, _, rfl, ?_, xs', o6', some (.p (.int 1)), rfl, h1⟩
        simp -implicitDefEqProofs [dr, e]
      · obtain ⟨xs2, e, t2⟩ := reached_ok k xs' h1 l hl
        refine ⟨_, _, rfl, ?_, xs2, o6, some (.p (.int 2)), rfl, t2⟩
        simp -implicitDefEqProofs [dr, e])
  exact ⟨xs', o6, o8, q⟩
def bend (b : PyData) : PyData → PyData
  | .tuple [_, s, n] => .tuple [b, s, n]
  | x => x
theorem lc_twins (C : Fns) (sc : D) (xs xs2 : List PyData) (lk : PyData) (b : PyData) (l : Link) (rows : List PyData) (hr : ∀ y ∈ rows, Row l y) (hn : rows.length ≤ 1000) (r : Int)
    (e : C 6 [.own xs, .p (.int 12)] = some (.p (.int r), [.own xs2, .p (.int 12)])) :
    (ev C G (.lc (.nm 6) .seq (.cons (.sl (.var 4) (.call 6 (.cons (.var 1) (.cons (.con (.int 12)) .nil))) .nil) .nil) .nil (.tup (.cons (.var 3) (.cons (.ix (.var 6) (.con (.int 1))) (.cons (.ix (.var 6) (.con (.int 2))) .nil)))) [("row", 6)])).v [some sc, some (.own xs), some (.p lk), some (.p b), some (.own rows), none, none, none, none]
    = some (.own ((cutS rows (some r) none).map (bend b)), [some sc, some (.own xs2), some (.p lk), some (.p b), some (.own rows), none, none, none, none]) := by
  rw [ev_lc_v]
  have hc := cut_len rows (some r) none
  have es : slS (.list rows) (some r) none = some (.own (cutS rows (some r) none)) := rfl
  have h := lcV_pure (tg := .nm 6) (it := .seq) (src := (ev C G (.cons (.sl (.var 4) (.call 6 (.cons (.var 1) (.cons (.con (.int 12)) .nil))) .nil) .nil)).ps) (ifs := ev C G .nil) (elt := (ev C G (.tup (.cons (.var 3) (.cons (.ix (.var 6) (.con (.int 1))) (.cons (.ix (.var 6) (.con (.int 2))) .nil))))).p) (own := [6])
    (ρ := [some sc, some (.own xs), some (.p lk), some (.p b), some (.own rows), none, none, none, none]) (ρ1 := [some sc, some (.own xs2), some (.p lk), some (.p b), some (.own rows), none, none, none, none]) (xs := [.list (cutS rows (some r) none)]) (items := cutS rows (some r) none)
    (fun x => true) (bend b) (fun x => [some sc, some (.own xs2), some (.p lk), some (.p b), some (.own rows), none, some (.p x), none, none]) (by simp -implicitDefEqProofs [e, es]) rfl (by omega) (by intro x _; rfl) (by intro x _; rfl) ?c (by intro x _; rfl) (by intro x _; rfl)
  · simp only [List.map_cons, List.map_nil]
    rw [h, List.filter_eq_self.mpr (fun _ _ => rfl)]
  · intro x hx _
    obtain ⟨s, now, rfl, _⟩ := hr x (cut_sub hx)
    simp -implicitDefEqProofs [bend]
theorem r_law (a : D) : rn (k + 1) 19 [a] = if lkOk [0] 0 [a] = true then outS 1 [a] (ex (rn k) G b_law [some a, none, none, none, none, none, none, none, none]) else none := rfl
theorem law_ok (ns : List Int) (hn : ns.length ≤ 63) : rn (k + 6) 19 [.p (.list (ns.map .int))] = some (.p (.bool true), [.p (.list (ns.map .int))]) := by
  obtain ⟨xs1, e1, t1⟩ := tape_ok (k + 4) ns
  obtain ⟨l, xs2, e2, w2, t2⟩ := link_ok k xs1 t1
  obtain ⟨b, xs3, e3, w3, t3⟩ := bent_ok k xs2 t2 l w2
  obtain ⟨y, xs4, e4, t4, m4⟩ := pick_k (k + 3) t3 (.p (.list [.int 12, .int 16, .int 24, .int 40])) _ rfl (by decide) (by decide)
  obtain ⟨many, rfl, c1, c2⟩ : ∃ z : Int, y = .int z ∧ 0 ≤ z ∧ z ≤ 40 := by
    simp at m4
    rcases m4 with rfl | rfl | rfl | rfl <;> exact ⟨_, rfl, by decide, by decide⟩
  obtain ⟨rows, xs5, e5, t5, n5, w5⟩ := run_ok (k + 1) xs4 t4 l w2 many c1 c2
  obtain ⟨r, xs6, e6, t6, _, _⟩ := draw_k (k + 4) t5 12 (by decide) (by decide)
  have e7 := lc_twins (rn (k + 5)) (.p (.list (ns.map .int))) xs5 xs6 l.enc b.enc l rows w5 (by omega) r e6
  have hc1 := cut_len rows (some r) none
  generalize ht : (cutS rows (some r) none).map (bend b.enc) = twins at e7
  have wt : ∀ y ∈ twins, Row b y := by
    intro y hy
    rw [← ht] at hy
    obtain ⟨z, hz, rfl⟩ := List.mem_map.mp hy
    obtain ⟨s, now, rfl, hs⟩ := w5 z (cut_sub hz)
    exact ⟨s, now, rfl, hs⟩
  have nt : twins.length ≤ 40 := by
    rw [← ht, List.length_map]
    omega
  have hc2 := cut_len twins none (some 12)
  obtain ⟨xs8, asked, e8, t8, n8, w8⟩ := order_ok (k + 3) xs6 t6 (rows ++ cutS twins none (some 12)) (by rw [List.length_append]; omega)
  obtain ⟨xs9, doors, e9, t9, w9⟩ := turns_ok (k + 3) xs8 t8
  obtain ⟨xs10, o6, o8, e10⟩ := dr_ok k (.p (.list (ns.map .int))) l b w2 w3 rows twins asked (by
    intro y hy
    rcases List.mem_append.mp (w8 y hy) with hy | hy
    · exact ⟨l, w2, w5 y hy⟩
    · exact ⟨b, w3, wt y (cut_sub hy)⟩) (by rw [n8, List.length_append]; omega) doors w9 xs9 t9
  have es : slS (.list twins) none (some 12) = some (.own (cutS twins none (some 12))) := rfl
  have hl : rows.length + (cutS twins none (some 12)).length ≤ 16777216 := by omega
  rw [r_law, show b_law = (.seq (.set 1 (.call 5 (.cons (.var 0) .nil))) (.seq (.set 2 (.call 14 (.cons (.var 1) .nil))) (.seq (.set 3 (.call 15 (.cons (.var 1) (.cons (.var 2) .nil)))) (.seq (.set 4 (.call 17 (.cons (.var 1) (.cons (.var 2) (.cons (.call 7 (.cons (.var 1) (.cons (.lst (.cons (.con (.int 12)) (.cons (.con (.int 16)) (.cons (.con (.int 24)) (.cons (.con (.int 40)) .nil))))) .nil))) .nil))))) (.seq (.set 5 (.lc (.nm 6) .seq (.cons (.sl (.var 4) (.call 6 (.cons (.var 1) (.cons (.con (.int 12)) .nil))) .nil) .nil) .nil (.tup (.cons (.var 3) (.cons (.ix (.var 6) (.con (.int 1))) (.cons (.ix (.var 6) (.con (.int 2))) .nil)))) [("row", 6)])) (.seq (.set 7 (.call 10 (.cons (.var 1) (.cons (.bin .add (.var 4) (.sl (.var 5) .nil (.con (.int 12)))) .nil)))) (.seq (.for_ (.nm 8) .seq (.cons (.call 8 (.cons (.var 1) (.cons (.con (.int 3)) .nil))) .nil) dr) (.seq (.ret (.con (.bool true))) .done)))))))) from rfl]
  simp -implicitDefEqProofs [e1, e2, e3, e4, e5, e7, es, hl, e8, e9, e10]
end
theorem lawrun0 (ns : List Int) (h : ns.length ≤ 63) : ∃ ds', Pv.run G (fds ds) 20 19 [.p (.list (ns.map PyData.int))] = some (.p (.bool true), ds') ∧ ds'.length = 1 := ⟨_, law_ok 14 ns h, rfl⟩
end K93

set_option Elab.async false
set_option linter.all false
set_option maxRecDepth 100000
set_option maxHeartbeats 0
namespace K93
open PySem PySem.Spec PyProof.Rows L2 Pv
abbrev R : PySem.W.OpenRow := PySem.W.OpenLaw.row PySem.Challenge.rw_sealedlink_k93_links_and_the_worst_wait
def fa : List He.Fa := faOf ds G
def fn : List He.DefD := ds.map DI.defD
abbrev hk : PySem.W.Hook := He.hookD 4 fa fn
def ob (s : PySem.W.SharedT) : He.AlD := He.obsDG 4 fa fn (HandSHeadRun.getT s)
theorem ob_eq (s : PySem.W.SharedT) : ob s = hk.obs s.abs := He.obsDG_eq (HandSHeadRun.getT_eq s)
def loose : List Str := ["DELAY", "EVERY", "ROOM", "DROPS", "DOUBLES", "LATES", "hand", "is_full", "leaving", "more_for", "worst", "_law_tape", "_law_draw", "_law_pick", "_law_turns", "_law_same", "_law_order", "_law_handed", "_law_places", "_law_lates", "_law_link", "_law_bent_link", "_law_later", "_law_run", "_law_reached"]
theorem run (w : World) : HandSHeadRun.RunEq R (PySem.W.view R.prog [27]) hk ob 2000 loose w := by
  intro os
  kernel_rfl
theorem lawrun : ∀ ns : List Int, ns.length ≤ 63 → ∃ ds', Pv.run G (fds ds) 20 19 [.p (.list (ns.map PyData.int))] = some (.p (.bool true), ds') ∧ ds'.length = 1 := lawrun0
end K93
open PySem PySem.W PySem.Calls PyProof.Rows
theorem PySem.Challenge.cw_sealedlink_k93_links_and_the_worst_wait_holds : PySem.Challenge.rw_sealedlink_k93_links_and_the_worst_wait.Holds := by
  w_on; o_law
  refine HandSHeadRun.head_any (r := K93.R) (q := view K93.R.prog [27]) (H := K93.hk) (ob := K93.ob) (M := 2000) (loose := K93.loose) (d := HandSHeadRun.topDef K93.R.prog 27) (kwd := []) K93.ob_eq
    (by kernel_rfl) (fun s => by kernel_rfl) K93.run (by kernel_rfl) (by kernel_rfl) (by kernel_rfl) (by rfl) (by first | assumption | decide +kernel) (by decide +kernel) ⟨rfl, rfl, rfl, rfl, rfl, by decide +kernel⟩ ?hw ?hc
  case hw => w_witness2
  case hc =>
    refine L2.walk_ofE (l := PySem.Challenge.rw_sealedlink_k93_links_and_the_worst_wait) (n := 63) (k := 20) (x := "script") (CX := L2.CX0) rfl (by decide) (by kernel_rfl) ⟨rfl, by decide, by decide⟩ ?F (fun _ _ _ _ z => z)
    intro w mg fa h Y G hmg0
    obtain ⟨K, KX, c⟩ := Y
    have hmg : mg ("law" : PySem.Str) = some (.ref fa) := by
      have e : (HandSHeadRun.topDef K93.R.prog 27).name = ("law" : PySem.Str) := by kernel_rfl
      rw [← e]
      exact hmg0
    have T := Pv.top_ok (P := (PySem.Challenge.rw_sealedlink_k93_links_and_the_worst_wait).prog) (w := w) KX G c K93.binds K93.hok K93.hg K93.hn
    obtain ⟨a, fd, h1, h2, _⟩ := T h KX G 20 19 K93.d_law rfl
    have e : a = fa := by
      have h1' : mg ("law" : PySem.Str) = some (.ref a) := h1
      rw [hmg] at h1'
      cases h1'
      rfl
    subst e
    refine ⟨K, fd, _, KX, fun s v => h2.bindsA (ps := ["script"]) (K93.binds K93.d_law (by unfold K93.ds; simp)) s [v] rfl, fun H a ns hl hO hS => Pv.law_sp K93.lawrun hl hO hS, fun base hKb hnb => ?_⟩
    obtain ⟨a2, fd2, g1, g2, g3⟩ := T base hKb hnb 20 19 K93.d_law rfl
    have e : a2 = a := by
      rw [h1] at g1
      cases g1
      rfl
    subst e
    obtain rfl := Pv.FunD.uniq h2 g2
    exact g3

