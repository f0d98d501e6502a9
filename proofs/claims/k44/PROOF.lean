import PyProof.Rows.All
import Wide.All
import OpenK.AllK
import Wide.FinOn
import KE.SortData
import KE.KDictKeyed
import HandS.Base
import HandS.Call
import HandS.List
import HandS.ForMost
import HandS.Wide
import HandS.Deep
import HandS.Zip
import PyProof.MinMaxWalk
import KE.DataCmp
import HandS.TupAny
import HandS.IsInst
import HandS.Conv
import HandS.Comp
import HandS.TupLe
import KE.SortLaws
import HandS.Flow
import HandS.Style
import HandS.Walk
import HandS.Iter
import KE.GoesEnum
import KE.GoesMore
import PyProof.FactsAll.list_0
import HandS.Ends
import HandS.Defaults
import HandS.Exc
import HandS.Head0
import HandS.Head1
import HandS.Head2
import HandS.HeadEnd
import HandS.HeadHook1
import HandS.HeadHook2
import PySem.Challenge.RW_ferryhouse_k44_whole_supplied_cars
set_option Elab.async false
set_option linter.all false
set_option maxRecDepth 100000
/-! Fh: a small syntax of Python, its evaluator over data. -/
namespace Fh
open PySem

abbrev PV := PyData

inductive R (α : Type) where
  | ok (a : α)
  | er (c : Str) (x : Option PV)
  | st

def R.bind {α β : Type} : R α → (α → R β) → R β
  | .ok a, f => f a
  | .er c x, _ => .er c x
  | .st, _ => .st
instance : Monad R where
  pure := R.ok
  bind := R.bind
def R.of {α : Type} : Option α → R α
  | some a => .ok a
  | none => .st
def R.guard (b : Bool) : R Unit := if b = true then .ok () else .st

/-- who holds a name's object: anyone (it stays as it is), the name alone, the caller's name -/
inductive Fg where | fz | ow | rf
  deriving DecidableEq
abbrev Cell := Option (PV × Fg)
abbrev Env := List Cell

inductive Op2 where | add | sub | mul | fdiv | mod | pow | shl
  deriving DecidableEq
inductive Cm where | eq | ne | lt | le | gt | ge | isin | notin
  deriving DecidableEq
inductive Ty where | int | bool | str | tuple | list | dict
  deriving DecidableEq
inductive Fn where | len | abs | int | min2 | max2 | min1 | max1 | sum | all | any | sorted | toL | toT
  deriving DecidableEq
inductive ItK where | seq | rng | zip | enm | rgd
  deriving DecidableEq
mutual
inductive Tg where
  | v (i : Nat)
  | t (ts : Tgs)
inductive Tgs where
  | nil
  | cons (t : Tg) (ts : Tgs)
end
mutual
inductive Ex where
  | v (i : Nat)
  | c (d : PyData)
  | g (x : Str) (d : PyData)
  | bin (o : Op2) (a b : Ex)
  | neg (a : Ex)
  | nt (a : Ex)
  | bop (n : Bool) (a b : Ex)
  | cmp (o : Cm) (a b : Ex)
  | chn (a : Ex) (o : Cm) (b : Ex) (p : Cm) (c : Ex)
  | isn (n : Bool) (a : Ex)
  | ist (n : Bool) (a : Ex) (b : Bool)
  | ite (c a b : Ex)
  | tup (es : Exs)
  | lst (es : Exs)
  | idx (a i : Ex)
  | slc (a : Ex) (lo hi : Exs)
  | call (f : Nat) (es : Exs)
  | fn (b : Fn) (es : Exs)
  | srt (a : Ex)
  | isi (a : Ex) (t : Ty)
  | isis (a : Ex) (ts : List Ty)
  | toS (l : Bool) (k : ItK) (src : Exs)
  | comp (own : List (Str × Nat)) (t : Tg) (k : ItK) (src : Exs) (c : Exs) (e : Ex)
inductive Exs where
  | nil
  | cons (e : Ex) (es : Exs)
end
inductive Mt where | append | extend
  deriving DecidableEq
mutual
inductive Sm where
  | asg (t : Tg) (e : Ex)
  | par (is : List Nat) (es : Exs)
  | seti (i : Nat) (k e : Ex)
  | aug (i : Nat) (o : Op2) (e : Ex)
  | ex (e : Ex)
  | mut (m : Mt) (i : Nat) (e : Ex)
  | ret (e : Ex)
  | ite (c : Ex) (a b : Sms)
  | for_ (t : Tg) (k : ItK) (src : Exs) (b : Sms)
  | whl (c : Ex) (b : Sms)
  | brk
  | cnt
  | pass
  | rz (x : Str) (es : Exs)
inductive Sms where
  | nil
  | cons (s : Sm) (ss : Sms)
end

/-! ### names -/
def getv (ρ : Env) (i : Nat) : R PV := match ρ[i]? with
  | some (some (d, _)) => .ok d
  | _ => .st
def ownL (ρ : Env) (i : Nat) : Bool := match ρ[i]? with
  | some (some (.list _, f)) => decide (f ≠ .fz)
  | _ => false
def getf (ρ : Env) (i : Nat) : Fg := match ρ[i]? with
  | some (some (_, f)) => f
  | _ => .fz
def frz (ρ : Env) (i : Nat) : Env := match ρ[i]? with
  | some (some (d, _)) => ρ.set i (some (d, .fz))
  | _ => ρ
def fgOf (b : Bool) : Fg := if b = true then .ow else .fz

/-! ### operations -/
def small (i : Int) : Bool := decide (-(2 ^ 64) < i) && decide (i < 2 ^ 64)
def mulOk (i j : Int) : Bool := small i || small j || decide (i.natAbs.log2 + j.natAbs.log2 < 1000000)
def arith : Op2 → PV → PV → R PV
  | .add, .int a, .int b => .ok (.int (a + b))
  | .add, .str a, .str b => if a.length + b.length ≤ sizeLine then .ok (.str (a ++ b)) else .st
  | .add, .tuple a, .tuple b => if a.length + b.length ≤ sizeLine then .ok (.tuple (a ++ b)) else .st
  | .add, .list a, .list b => if a.length + b.length ≤ sizeLine then .ok (.list (a ++ b)) else .st
  | .sub, .int a, .int b => .ok (.int (a - b))
  | .mul, .int a, .int b => if mulOk a b = true then .ok (.int (a * b)) else .st
  | .fdiv, .int a, .int b => if b ≠ 0 ∧ b.natAbs.log2 < 9000 then .ok (.int (a.fdiv b)) else .st
  | .mod, .int a, .int b => if b ≠ 0 then .ok (.int (a.fmod b)) else .st
  | .pow, .int a, .int b => if 0 ≤ b ∧ b ≤ 1000000 ∧ a.natAbs < 2 ^ 64 then .ok (.int (a ^ b.toNat)) else .st
  | .shl, .int a, .int b => if 0 ≤ b ∧ b ≤ 1000000 ∧ a.natAbs < 2 ^ 64 then .ok (.int (a * 2 ^ b.toNat)) else .st
  | _, _, _ => .st
/-- is it an object that may be changed -/
def isM : PV → Bool
  | .list _ => true
  | .dict _ => true
  | _ => false
def isNone : PV → Bool
  | .none => true
  | _ => false
def flat : PV → Bool
  | .none => true
  | .bool _ => true
  | .int _ => true
  | .str _ => true
  | _ => false
def truth : PV → R Bool
  | .none => .ok false
  | .bool b => .ok b
  | .int i => .ok (i != 0)
  | .str s => if s.length ≤ sizeLine then .ok (s.length != 0) else .st
  | .tuple xs => .ok (!xs.isEmpty)
  | .list xs => .ok (!xs.isEmpty)
  | .dict _ => .st
def inAny (x : PV) (ys : List PV) : Bool := ys.any fun y => PyData.eqv y x
def cmpv : Cm → PV → PV → R Bool
  | .eq, x, y => if SeqAt.shaped x = true ∧ SeqAt.shaped y = true then .ok (PyData.eqv x y) else .st
  | .ne, x, y => if SeqAt.shaped x = true ∧ SeqAt.shaped y = true then .ok (!PyData.eqv x y) else .st
  | .lt, .int a, .int b => .ok (decide (a < b))
  | .le, .int a, .int b => .ok (decide (a ≤ b))
  | .gt, .int a, .int b => .ok (decide (b < a))
  | .ge, .int a, .int b => .ok (decide (b ≤ a))
  | .lt, x, y => if W.alike x y = true ∧ isNone x = false ∧ x.depth ≤ 60 then .ok (W.dataLt x y) else .st
  | .isin, x, .tuple ys => if SeqAt.shaped x = true ∧ SeqAt.shaped (.tuple ys) = true then .ok (inAny x ys) else .st
  | .isin, x, .list ys => if SeqAt.shaped x = true ∧ SeqAt.shaped (.list ys) = true then .ok (inAny x ys) else .st
  | .notin, x, .tuple ys => if SeqAt.shaped x = true ∧ SeqAt.shaped (.tuple ys) = true then .ok (!inAny x ys) else .st
  | .notin, x, .list ys => if SeqAt.shaped x = true ∧ SeqAt.shaped (.list ys) = true then .ok (!inAny x ys) else .st
  | _, _, _ => .st

/-- a row's place: from the front or (negative) from the back -/
def atI (xs : List PV) (i : Int) : R PV := R.of (L2.atI xs i)
def getItem : PV → PV → R PV
  | .list xs, .int i => atI xs i
  | .tuple xs, .int i => atI xs i
  | _, _ => .st
def cut (xs : List PV) (lo hi : Option Int) : List PV := (xs.drop (HT.sIx xs.length 0 lo)).take (HT.sIx xs.length xs.length hi - HT.sIx xs.length 0 lo)
def slice : PV → Option Int → Option Int → R PV
  | .list xs, lo, hi => .ok (.list (cut xs lo hi))
  | .tuple xs, lo, hi => .ok (.tuple (cut xs lo hi))
  | _, _, _ => .st
def asInt : PV → R Int
  | .int i => .ok i
  | _ => .st
def asInts : List PV → R (List Int)
  | [] => .ok []
  | .int i :: xs => (asInts xs).bind fun is => .ok (i :: is)
  | _ :: _ => .st
def asBools : List PV → R (List Bool)
  | [] => .ok []
  | .bool i :: xs => (asBools xs).bind fun is => .ok (i :: is)
  | _ :: _ => .st
def seqOf : PV → R (List PV)
  | .list xs => .ok xs
  | .tuple xs => .ok xs
  | _ => .st
def isTy : PV → Ty → Bool
  | .int _, .int => true
  | .bool _, .int => true
  | .bool _, .bool => true
  | .str _, .str => true
  | .tuple _, .tuple => true
  | .list _, .list => true
  | .dict _, .dict => true
  | _, _ => false
/-! sorting -/
def leD (x y : PV) : Bool := W.dataLe false id x y
def ins (x : PV) : List PV → List PV
  | [] => [x]
  | y :: ys => if leD x y = true then x :: y :: ys else y :: ins x ys
def isort : List PV → List PV
  | [] => []
  | x :: xs => ins x (isort xs)
def tupNE : PV → Bool
  | .tuple (_ :: _) => true
  | _ => false
def notTN : PV → Bool
  | .none => false
  | .tuple _ => false
  | _ => true
def sortB (xs : List PV) : Bool := (xs.all tupNE || xs.all notTN) && (xs.all fun d => xs.all fun e => W.alike d e) && (xs.all fun d => decide (d.depth ≤ 60))
def srtV : PV → R PV
  | .list xs => if sortB xs = true ∧ xs.length ≤ sizeLine then .ok (.list (isort xs)) else .st
  | _ => .st
def cmpB (xs : List PV) : Bool := (xs.all fun d => !isNone d) && (xs.all fun d => xs.all fun e => W.alike d e) && (xs.all fun d => decide (d.depth ≤ 60))
def bestD (lt : PV → PV → Bool) : List PV → R PV
  | [] => .st
  | x :: xs => .ok (xs.foldl (fun b y => if lt y b = true then y else b) x)
def minV (xs : List PV) : R PV := if cmpB xs = true then bestD (fun y b => W.dataLt y b) xs else .st
def maxV (xs : List PV) : R PV := if cmpB xs = true then bestD (fun y b => W.dataLt b y) xs else .st
/-- a built-in function at values -/
def fn1 : Fn → PV → R PV
  | .len, .list xs => .ok (.int xs.length)
  | .len, .tuple xs => .ok (.int xs.length)
  | .len, .str x => if x.length ≤ sizeLine then .ok (.int x.length) else .st
  | .abs, .int i => .ok (.int (if i < 0 then -i else i))
  | .int, .int i => .ok (.int i)
  | .int, .bool b => .ok (.int (if b = true then 1 else 0))
  | .sum, .list xs => (asInts xs).bind fun is => .ok (.int is.sum)
  | .all, .list xs => (asBools xs).bind fun bs => .ok (.bool (bs.all id))
  | .any, .list xs => (asBools xs).bind fun bs => .ok (.bool (bs.any id))
  | .min1, .list xs => minV xs
  | .max1, .list xs => maxV xs
  | _, _ => .st
def fn2 : Fn → PV → PV → R PV
  | .min2, .int a, .int b => .ok (.int (if b < a then b else a))
  | .max2, .int a, .int b => .ok (.int (if b > a then b else a))
  | _, _, _ => .st
def applyFn : Fn → List PV → R PV
  | b, [x] => fn1 b x
  | b, [x, y] => fn2 b x y
  | _, _ => .st
def rangeOk (i : Int) : Bool := decide (-(2 ^ 62) ≤ i) && decide (i < 2 ^ 62)
def upTo (lo : Int) (n : Nat) : List PV := (List.range n).map fun (i : Nat) => .int (lo + (i : Int))
def downFrom (hi : Int) (n : Nat) : List PV := (List.range n).map fun (i : Nat) => .int (hi + (i : Int) * (-1))
/-- what a loop goes over -/
def items : ItK → List PV → R (List PV)
  | .seq, [.list xs] => .ok xs
  | .seq, [.tuple xs] => .ok xs
  | .rng, [.int j] => if rangeOk j = true ∧ j.toNat ≤ sizeLine then .ok (upTo 0 j.toNat) else .st
  | .rng, [.int i, .int j] => if rangeOk i = true ∧ rangeOk j = true ∧ (j - i).toNat ≤ sizeLine then .ok (upTo i (j - i).toNat) else .st
  | .zip, [.list xs, .list ys] => .ok ((xs.zip ys).map fun p => .tuple [p.1, p.2])
  | .zip, [.tuple xs, .tuple ys] => .ok ((xs.zip ys).map fun p => .tuple [p.1, p.2])
  | .rgd, [.int i, .int j, .int k] => if k = -1 ∧ rangeOk i = true ∧ rangeOk j = true ∧ (i - j).toNat ≤ sizeLine then .ok (downFrom i (i - j).toNat) else .st
  | .enm, [.tuple xs] => .ok (xs.zipIdx.map fun p => .tuple [.int p.2, p.1])
  | .enm, [.list xs] => .ok (xs.zipIdx.map fun p => .tuple [.int p.2, p.1])
  | _, _ => .st

/-! ### the evaluator -/
/-- an operand is looked at where it is used -/
def peek (a : Ex) (ρ : Env) (r : R (PV × Bool × Env)) : R (PV × Env) := match a with
  | .v i => (getv ρ i).bind fun d => .ok (d, ρ)
  | _ => r.bind fun p => .ok (p.1, p.2.2)
def again (a : Ex) (d : PV) (ρ : Env) : R PV := match a with
  | .v i => getv ρ i
  | _ => .ok d
def agains : Exs → List PV → Env → R (List PV)
  | .nil, [], _ => .ok []
  | .cons a as, d :: ds, ρ => (again a d ρ).bind fun x => (agains as ds ρ).bind fun xs => .ok (x :: xs)
  | _, _, _ => .st
/-- the names among some operands, let go -/
def frzs : Exs → Env → Env
  | .nil, ρ => ρ
  | .cons (.v i) as, ρ => frzs as (frz ρ i)
  | .cons _ as, ρ => frzs as ρ
mutual
def asgT : Tg → PV → Fg → Env → R Env
  | .v i, d, f, ρ => if i < ρ.length then .ok (ρ.set i (some (d, f))) else .st
  | .t ts, .tuple ds, _, ρ => asgTs ts ds ρ
  | .t _, _, _, _ => .st
def asgTs : Tgs → List PV → Env → R Env
  | .nil, [], ρ => .ok ρ
  | .cons t ts, d :: ds, ρ => (asgT t d .fz ρ).bind fun ρ1 => asgTs ts ds ρ1
  | _, _, _ => .st
end
def wipe (ρ : Env) : List Nat → Env
  | [] => ρ
  | i :: is => (wipe ρ is).set i none
/-- the names of a comprehension hold nothing of their own ahead of it -/
def noneOwned (ρ : Env) (is : List Nat) : Bool := is.all fun i => decide (getf ρ i = .fz)
/-- what stood there stands again -/
def unwipe (ρ0 ρ : Env) : List Nat → Env
  | [] => ρ
  | i :: is => (unwipe ρ0 ρ is).set i (ρ0.getD i none)
/-- what a def gives back: its value, whether it is the caller's own, its by-reference parameter's value -/
abbrev Ret := PV × Bool × Option PV
abbrev Calls := Nat → List PV → R Ret
/-- which parameter of a def is by reference -/
abbrev Refs := Nat → Option Nat
/-- the argument's name -/
def nameAt : Exs → Nat → Option Nat
  | .cons (.v i) _, 0 => some i
  | .cons _ es, n + 1 => nameAt es n
  | _, _ => none
/-- the name stands among the arguments so often -/
def timesIn (i : Nat) : Exs → Nat
  | .nil => 0
  | .cons (.v j) es => (if j = i then 1 else 0) + timesIn i es
  | .cons _ es => timesIn i es
/-- the names among some operands but one, let go -/
def frzsX (i : Nat) : Exs → Env → Env
  | .nil, ρ => ρ
  | .cons (.v j) as, ρ => if j = i then frzsX i as ρ else frzsX i as (frz ρ j)
  | .cons _ as, ρ => frzsX i as ρ
section
variable (refs : Refs) (call : Calls)
/-- a call at known arguments -/
def callE (f : Nat) (es : Exs) (ds : List PV) (ρ : Env) : R (PV × Bool × Env) := match refs f with
  | none => (call f ds).bind fun r => .ok (r.1, r.2.1, if flat r.1 = true then ρ else frzs es ρ)
  | some j => match nameAt es j with
    | none => .st
    | some i => match ρ[i]? with
      | some (some (_, f0)) => if f0 = .fz ∨ timesIn i es ≠ 1 then .st else
          (call f ds).bind fun r => match r.2.2 with
            | some d => .ok (r.1, r.2.1, (frzsX i es ρ).set i (some (d, f0)))
            | none => .st
      | _ => .st
mutual
def evE : Ex → Env → R (PV × Bool × Env)
  | .v i, ρ => (getv ρ i).bind fun d => .ok (d, false, frz ρ i)
  | .c d, ρ => .ok (d, false, ρ)
  | .g _ d, ρ => .ok (d, false, ρ)
  | .bin o a b, ρ => (peek a ρ (evE a ρ)).bind fun (x, ρ1) => (peek b ρ1 (evE b ρ1)).bind fun (y, ρ2) => (again a x ρ2).bind fun x => (arith o x y).bind fun z => .ok (z, isM z, ρ2)
  | .neg a, ρ => (peek a ρ (evE a ρ)).bind fun (x, ρ1) => (asInt x).bind fun i => .ok (.int (-i), false, ρ1)
  | .nt a, ρ => (peek a ρ (evE a ρ)).bind fun (x, ρ1) => (truth x).bind fun t => .ok (.bool (!t), false, ρ1)
  | .bop n a b, ρ => (peek a ρ (evE a ρ)).bind fun (x, ρ1) => (truth x).bind fun t => if t = n then evE b ρ1 else if flat x = true then .ok (x, false, ρ1) else .st
  | .cmp o a b, ρ => (peek a ρ (evE a ρ)).bind fun (x, ρ1) => (peek b ρ1 (evE b ρ1)).bind fun (y, ρ2) => (again a x ρ2).bind fun x => (cmpv o x y).bind fun t => .ok (.bool t, false, ρ2)
  | .chn a o b p c, ρ => (peek a ρ (evE a ρ)).bind fun (x, ρ1) => (peek b ρ1 (evE b ρ1)).bind fun (y, ρ2) => (again a x ρ2).bind fun x => (cmpv o x y).bind fun t =>
      if t = true then (peek c ρ2 (evE c ρ2)).bind fun (z, ρ3) => (again b y ρ3).bind fun y => (cmpv p y z).bind fun u => .ok (.bool u, false, ρ3) else .ok (.bool false, false, ρ2)
  | .isn n a, ρ => (peek a ρ (evE a ρ)).bind fun (x, ρ1) => .ok (.bool (n != isNone x), false, ρ1)
  | .ist n a b, ρ => (peek a ρ (evE a ρ)).bind fun (x, ρ1) => match x with
      | .bool c => .ok (.bool (n != (c == b)), false, ρ1)
      | _ => .st
  | .ite c a b, ρ => (peek c ρ (evE c ρ)).bind fun (x, ρ1) => (truth x).bind fun t => if t = true then evE a ρ1 else evE b ρ1
  | .tup es, ρ => (evL es ρ).bind fun (xs, ρ1) => if xs.length ≤ sizeLine then .ok (.tuple xs, false, ρ1) else .st
  | .lst es, ρ => (evL es ρ).bind fun (xs, ρ1) => if xs.length ≤ sizeLine then .ok (.list xs, true, ρ1) else .st
  | .idx a i, ρ => (peek a ρ (evE a ρ)).bind fun (x, ρ1) => (peek i ρ1 (evE i ρ1)).bind fun (y, ρ2) => (again a x ρ2).bind fun x => (getItem x y).bind fun z => .ok (z, false, ρ2)
  | .slc a lo hi, ρ => (peek a ρ (evE a ρ)).bind fun (x, ρ1) => (evO lo ρ1).bind fun (l, ρ2) => (evO hi ρ2).bind fun (h, ρ3) => (again a x ρ3).bind fun x => (slice x l h).bind fun z => .ok (z, isM z, ρ3)
  | .call f es, ρ => (evP es ρ).bind fun (xs, ρ1) => (agains es xs ρ1).bind fun ds => callE refs call f es ds ρ1
  | .fn b es, ρ => (evP es ρ).bind fun (xs, ρ1) => (agains es xs ρ1).bind fun ds => (applyFn b ds).bind fun z => .ok (z, false, ρ1)
  | .srt a, ρ => (peek a ρ (evE a ρ)).bind fun (x, ρ1) => (srtV x).bind fun z => .ok (z, true, ρ1)
  | .isi a t, ρ => (peek a ρ (evE a ρ)).bind fun (x, ρ1) => .ok (.bool (isTy x t), false, ρ1)
  | .isis a ts, ρ => (peek a ρ (evE a ρ)).bind fun (x, ρ1) => .ok (.bool (ts.any fun t => isTy x t), false, ρ1)
  | .toS l k src, ρ => (evP src ρ).bind fun (xs, ρ1) => (agains src xs ρ1).bind fun ds => (items k ds).bind fun ys => if ys.length ≤ sizeLine then .ok (if l = true then .list ys else .tuple ys, l, ρ1) else .st
  | .comp own t k src c e, ρ => (evL src ρ).bind fun (ds, ρ1) => (items k ds).bind fun xs =>
      if noneOwned ρ1 (own.map (·.2)) = true ∧ xs.length ≤ sizeLine then
        (xs.foldlM (fun (acc : List PV × Env) x => (asgT t x .fz acc.2).bind fun ρ2 => (evC c ρ2).bind fun (b, ρ3) =>
          if b = true then (evE e ρ3).bind fun (y, _, ρ4) => .ok (acc.1 ++ [y], wipe ρ4 (own.map (·.2))) else .ok (acc.1, wipe ρ3 (own.map (·.2)))) ([], wipe ρ1 (own.map (·.2)))).bind fun r =>
        .ok (.list r.1, true, unwipe ρ1 r.2 (own.map (·.2)))
      else .st
/-- items of a display: let go -/
def evL : Exs → Env → R (List PV × Env)
  | .nil, ρ => .ok ([], ρ)
  | .cons a as, ρ => (evE a ρ).bind fun (x, _, ρ1) => (evL as ρ1).bind fun (xs, ρ2) => .ok (x :: xs, ρ2)
/-- operands: looked at -/
def evP : Exs → Env → R (List PV × Env)
  | .nil, ρ => .ok ([], ρ)
  | .cons a as, ρ => (peek a ρ (evE a ρ)).bind fun (x, ρ1) => (evP as ρ1).bind fun (xs, ρ2) => .ok (x :: xs, ρ2)
/-- an optional part of a slice -/
def evO : Exs → Env → R (Option Int × Env)
  | .nil, ρ => .ok (none, ρ)
  | .cons a .nil, ρ => (peek a ρ (evE a ρ)).bind fun (x, ρ1) => (asInt x).bind fun i => .ok (some i, ρ1)
  | _, _ => .st
/-- an optional test -/
def evC : Exs → Env → R (Bool × Env)
  | .nil, ρ => .ok (true, ρ)
  | .cons a .nil, ρ => (peek a ρ (evE a ρ)).bind fun (x, ρ1) => (truth x).bind fun t => .ok (t, ρ1)
  | _, _ => .st
end
/-- a test -/
def evT (a : Ex) (ρ : Env) : R (Bool × Env) := (peek a ρ (evE refs call a ρ)).bind fun (x, ρ1) => (truth x).bind fun t => .ok (t, ρ1)
/-- what a return gives -/
def evR (a : Ex) (ρ : Env) : R (PV × Bool × Env) := match a with
  | .v i => match ρ[i]? with
    | some (some (d, .ow)) => .ok (d, true, ρ.set i none)
    | some (some (d, .fz)) => .ok (d, false, ρ)
    | _ => .st
  | _ => evE refs call a ρ

inductive Fl where
  | nx (ρ : Env)
  | br (ρ : Env)
  | ct (ρ : Env)
  | rt (d : PV) (f : Bool) (ρ : Env)
/-- values with who holds them -/
def evF : Exs → Env → R (List (PV × Bool) × Env)
  | .nil, ρ => .ok ([], ρ)
  | .cons a as, ρ => (evE refs call a ρ).bind fun (x, f, ρ1) => (evF as ρ1).bind fun (xs, ρ2) => .ok ((x, f) :: xs, ρ2)
def asgP : List Nat → List (PV × Bool) → Env → R Env
  | [], [], ρ => .ok ρ
  | i :: is, (d, f) :: ds, ρ => if i < ρ.length then asgP is ds (ρ.set i (some (d, fgOf f))) else .st
  | _, _, _ => .st
/-- x[k] = e -/
def setI : PV → PV → PV → R PV
  | .list xs, .int i, e => match L2.ixN xs.length i with
    | some j => .ok (.list (xs.set j e))
    | none => .st
  | _, _, _ => .st
def mutV : Mt → PV → PV → R PV
  | .append, .list xs, d => if xs.length < sizeLine then .ok (.list (xs ++ [d])) else .st
  | _, _, _ => .st
/-- a name's own object, changed -/
def putV (ρ : Env) (i : Nat) (g : PV → R PV) : R Env := match ρ[i]? with
  | some (some (d, f)) => if f = .fz then .st else (g d).bind fun d' => .ok (ρ.set i (some (d', f)))
  | _ => .st
variable (fuel : Nat)
def whileF (c : Env → R (Bool × Env)) (b : Env → R Fl) : Nat → Env → R Fl
  | 0, _ => .st
  | n + 1, ρ => (c ρ).bind fun (t, ρ1) => if t = true then (b ρ1).bind fun
      | .nx ρ2 => whileF c b n ρ2
      | .ct ρ2 => whileF c b n ρ2
      | .br ρ2 => .ok (.nx ρ2)
      | .rt d f ρ2 => .ok (.rt d f ρ2) else .ok (.nx ρ1)
def forF (t : Tg) (b : Env → R Fl) : List PV → Env → R Fl
  | [], ρ => .ok (.nx ρ)
  | x :: xs, ρ => (asgT t x .fz ρ).bind fun ρ1 => (b ρ1).bind fun
      | .nx ρ2 => forF t b xs ρ2
      | .ct ρ2 => forF t b xs ρ2
      | .br ρ2 => .ok (.nx ρ2)
      | .rt d f ρ2 => .ok (.rt d f ρ2)
mutual
def evS : Sm → Env → R Fl
  | .asg (.v i) e, ρ => (evE refs call e ρ).bind fun (d, f, ρ1) => (asgT (.v i) d (fgOf f) ρ1).bind fun ρ2 => .ok (.nx ρ2)
  | .asg t e, ρ => (evE refs call e ρ).bind fun (d, _, ρ1) => (asgT t d .fz ρ1).bind fun ρ2 => .ok (.nx ρ2)
  | .par is es, ρ => (evF refs call es ρ).bind fun (ds, ρ1) => (asgP is ds ρ1).bind fun ρ2 => .ok (.nx ρ2)
  | .seti i k e, ρ => (evE refs call e ρ).bind fun (d, _, ρ1) => (getv ρ1 i).bind fun _ => (peek k ρ1 (evE refs call k ρ1)).bind fun (j, ρ2) => (putV ρ2 i fun x => setI x j d).bind fun ρ3 => .ok (.nx ρ3)
  | .aug i o e, ρ => (getv ρ i).bind fun x => (peek e ρ (evE refs call e ρ)).bind fun (y, ρ1) => (asInt x).bind fun a => (asInt y).bind fun b => (arith o (.int a) (.int b)).bind fun z => (asgT (.v i) z .fz ρ1).bind fun ρ2 => .ok (.nx ρ2)
  | .ex e, ρ => (evE refs call e ρ).bind fun (_, _, ρ1) => .ok (.nx ρ1)
  | .mut m i e, ρ => (R.guard (ownL ρ i)).bind fun _ => (evE refs call e ρ).bind fun (d, _, ρ1) => (putV ρ1 i fun x => mutV m x d).bind fun ρ2 => .ok (.nx ρ2)
  | .ret e, ρ => (evR refs call e ρ).bind fun (d, f, ρ1) => .ok (.rt d f ρ1)
  | .ite c a b, ρ => (evT refs call c ρ).bind fun (t, ρ1) => if t = true then evSs a ρ1 else evSs b ρ1
  | .for_ t k src b, ρ => (evL refs call src ρ).bind fun (ds, ρ1) => (items k ds).bind fun xs => forF t (fun ρ => evSs b ρ) xs ρ1
  | .whl c b, ρ => whileF (fun ρ => evT refs call c ρ) (fun ρ => evSs b ρ) fuel ρ
  | .brk, ρ => .ok (.br ρ)
  | .cnt, ρ => .ok (.ct ρ)
  | .pass, ρ => .ok (.nx ρ)
  | .rz _ _, _ => .st
def evSs : Sms → Env → R Fl
  | .nil, ρ => .ok (.nx ρ)
  | .cons s ss, ρ => (evS s ρ).bind fun
      | .nx ρ1 => evSs ss ρ1
      | r => .ok r
end
end

/-! ### defs -/
structure Def where
  np : Nat
  nv : Nat
  ref : Option Nat
  body : Sms
def startE (ref : Option Nat) : Nat → List PV → Env
  | _, [] => []
  | j, d :: ds => some (d, if ref = some j then Fg.rf else Fg.fz) :: startE ref (j + 1) ds
def refOut (ref : Option Nat) (ρ : Env) : R (Option PV) := match ref with
  | none => .ok none
  | some r => match ρ[r]? with
    | some (some (d, .rf)) => .ok (some d)
    | _ => .st
def outOf (ref : Option Nat) : Fl → R Ret
  | .rt d f ρ => (refOut ref ρ).bind fun o => .ok (d, f, o)
  | .nx ρ => (refOut ref ρ).bind fun o => .ok (.none, false, o)
  | _ => .st
/-- a program: its defs by numbers -/
abbrev Prog := Nat → Option Def
def refsOf (P : Prog) : Refs := fun f => (P f).bind Def.ref
def runDef (P : Prog) (fuel : Nat) (call : Calls) (d : Def) (ds : List PV) : R Ret :=
  if ds.length = d.np then (evSs (refsOf P) call fuel d.body (startE d.ref 0 ds ++ List.replicate (d.nv - d.np) none)).bind (outOf d.ref) else .st
def callN (P : Prog) (fuel : Nat) : Nat → Calls
  | 0 => fun _ _ => .st
  | n + 1 => fun f ds => match P f with
    | some d => runDef P fuel (callN P fuel n) d ds
    | none => .st
end Fh

set_option maxHeartbeats 1000000
/-! Fh: data in the heap; who holds what. -/
namespace Fh
open PySem PySem.Spec PyProof.Rows L2

/-! ### data in the heap -/
mutual
inductive Rep (K : PySem.W.Frag) (A : Hp) : V → PyData → Prop
  | non : Rep K A .non .none
  | bl (b : Bool) : Rep K A (.bl b) (.bool b)
  | int (i : Int) : Rep K A (.int i) (.int i)
  | str (x : Str) : Rep K A (.str x) (.str x)
  | lst {a : Addr} {xs : List V} {ds : List PyData} : SqL K A a xs → RepAll K A xs ds → Rep K A (.ref a) (.list ds)
  | tup {a : Addr} {xs : List V} {ds : List PyData} : SqT K A a xs → RepAll K A xs ds → Rep K A (.ref a) (.tuple ds)
inductive RepAll (K : PySem.W.Frag) (A : Hp) : List V → List PyData → Prop
  | nil : RepAll K A [] []
  | cons {v : V} {vs : List V} {d : PyData} {ds : List PyData} : Rep K A v d → RepAll K A vs ds → RepAll K A (v :: vs) (d :: ds)
end
theorem sqL_mono {K : PySem.W.Frag} {A B : Hp} {a : Addr} {xs : List V} (e : Same A B) (h : SqL K A a xs) : SqL K B a xs := by
  rcases h with (h | ⟨o, h⟩) | h
  · exact .inl (.inl (e _ _ h))
  · exact .inl (.inr ⟨o, e _ _ h⟩)
  · exact .inr h
theorem sqT_mono {K : PySem.W.Frag} {A B : Hp} {a : Addr} {xs : List V} (e : Same A B) (h : SqT K A a xs) : SqT K B a xs := by
  rcases h with (h | ⟨o, h⟩) | h
  · exact .inl (.inl (e _ _ h))
  · exact .inl (.inr ⟨o, e _ _ h⟩)
  · exact .inr h
mutual
theorem Rep.mono {K : PySem.W.Frag} {A B : Hp} (e : Same A B) : ∀ {d : PyData} {v : V}, Rep K A v d → Rep K B v d
  | _, _, .non => .non
  | _, _, .bl b => .bl b
  | _, _, .int i => .int i
  | _, _, .str x => .str x
  | _, _, .lst h r => .lst (sqL_mono e h) (RepAll.mono e r)
  | _, _, .tup h r => .tup (sqT_mono e h) (RepAll.mono e r)
theorem RepAll.mono {K : PySem.W.Frag} {A B : Hp} (e : Same A B) : ∀ {ds : List PyData} {vs : List V}, RepAll K A vs ds → RepAll K B vs ds
  | _, _, .nil => .nil
  | _, _, .cons h r => .cons (Rep.mono e h) (RepAll.mono e r)
end
mutual
theorem Rep.dp {K : PySem.W.Frag} {A : Hp} : ∀ {d : PyData} {v : V}, Rep K A v d → Dp K A v d
  | _, _, .non => .non
  | _, _, .bl b => .bl b
  | _, _, .int i => .int i
  | _, _, .str x => .str x
  | _, _, .lst h r => .lst h (RepAll.dp r)
  | _, _, .tup h r => .tup h (RepAll.dp r)
theorem RepAll.dp {K : PySem.W.Frag} {A : Hp} : ∀ {ds : List PyData} {vs : List V}, RepAll K A vs ds → DpAll K A vs ds
  | _, _, .nil => .nil
  | _, _, .cons h r => .cons (Rep.dp h) (RepAll.dp r)
end
section
variable {K : PySem.W.Frag} {A B H : Hp}
theorem RepAll.length : ∀ {ds : List PyData} {vs : List V}, RepAll K A vs ds → vs.length = ds.length
  | _, _, .nil => rfl
  | _, _, .cons _ r => congrArg (· + 1) r.length
theorem RepAll.append : ∀ {ds es : List PyData} {vs ws : List V}, RepAll K A vs ds → RepAll K A ws es → RepAll K A (vs ++ ws) (ds ++ es)
  | _, _, _, _, .nil, s => s
  | _, _, _, _, .cons h r, s => .cons h (r.append s)
theorem RepAll.take : ∀ {ds : List PyData} {vs : List V} (n : Nat), RepAll K A vs ds → RepAll K A (vs.take n) (ds.take n)
  | _, _, 0, _ => .nil
  | _, _, _ + 1, .nil => .nil
  | _, _, n + 1, .cons h r => .cons h (r.take n)
theorem RepAll.drop : ∀ {ds : List PyData} {vs : List V} (n : Nat), RepAll K A vs ds → RepAll K A (vs.drop n) (ds.drop n)
  | _, _, 0, r => r
  | _, _, _ + 1, .nil => .nil
  | _, _, n + 1, .cons h r => r.drop n
theorem RepAll.set {v : V} {d : PyData} (h : Rep K A v d) : ∀ {ds : List PyData} {vs : List V} (n : Nat), RepAll K A vs ds → RepAll K A (vs.set n v) (ds.set n d)
  | _, _, _, .nil => .nil
  | _, _, 0, .cons _ r => .cons h r
  | _, _, n + 1, .cons q r => .cons q (r.set h n)
theorem RepAll.get : ∀ {ds : List PyData} {vs : List V} {n : Nat} {d : PyData}, RepAll K A vs ds → ds[n]? = some d → ∃ v, vs[n]? = some v ∧ Rep K A v d
  | _, _, _, _, .nil, e => by simp at e
  | _, _, 0, _, .cons h r, e => by simp at e; subst e; exact ⟨_, rfl, h⟩
  | _, _, n + 1, _, .cons h r, e => by
    obtain ⟨v, h1, h2⟩ := r.get (n := n) (by simpa using e)
    exact ⟨v, by simpa using h1, h2⟩
theorem RepAll.get' : ∀ {ds : List PyData} {vs : List V} {n : Nat} {v : V}, RepAll K A vs ds → vs[n]? = some v → ∃ d, ds[n]? = some d ∧ Rep K A v d
  | _, _, _, _, .nil, e => by simp at e
  | _, _, 0, _, .cons h r, e => by simp at e; subst e; exact ⟨_, rfl, h⟩
  | _, _, n + 1, _, .cons h r, e => by
    obtain ⟨v, h1, h2⟩ := r.get' (n := n) (by simpa using e)
    exact ⟨v, by simpa using h1, h2⟩

/-- an object that one name holds -/
def Top (K : PySem.W.Frag) (H A : Hp) (a : Addr) : PyData → Prop
  | .list ds => ∃ vs, H a = some (.lst vs) ∧ RepAll K A vs ds
  | _ => False
theorem Top.some {a : Addr} {d : PyData} (h : Top K H A a d) : H a ≠ none := by
  cases d with
  | list ds => obtain ⟨vs, e, _⟩ := h; rw [e]; simp
  | _ => exact h.elim
theorem Top.mono {H' : Hp} {a : Addr} {d : PyData} (h : Top K H A a d) (e : H' a = H a) (s : Same A B) : Top K H' B a d := by
  cases d with
  | list ds => obtain ⟨vs, e1, r⟩ := h; exact ⟨vs, e.trans e1, r.mono s⟩
  | _ => exact h.elim
theorem Top.rep {a : Addr} {d : PyData} (h : Top K H A a d) (e : B a = H a) (s : Same A B) : Rep K B (.ref a) d := by
  cases d with
  | list ds => obtain ⟨vs, e1, r⟩ := h; exact .lst (SqL.of (e.trans e1)) (r.mono s)
  | _ => exact h.elim
/-- what an operation may look at: public data, or an object that a name holds -/
def Opd (K : PySem.W.Frag) (A H : Hp) (v : V) (d : PyData) : Prop := Rep K A v d ∨ ∃ a, v = .ref a ∧ Top K H A a d
theorem Opd.dp {v : V} {d : PyData} (s : Same A H) (h : Opd K A H v d) : Dp K H v d := by
  rcases h with h | ⟨a, rfl, h⟩
  · exact (h.mono s).dp
  · exact (h.rep rfl s).dp
theorem Opd.int {v : V} {i : Int} (h : Opd K A H v (.int i)) : v = .int i := by
  rcases h with h | ⟨a, rfl, h⟩
  · cases h; rfl
  · exact h.elim
theorem Opd.bl {v : V} {i : Bool} (h : Opd K A H v (.bool i)) : v = .bl i := by
  rcases h with h | ⟨a, rfl, h⟩
  · cases h; rfl
  · exact h.elim
theorem Opd.str {v : V} {i : Str} (h : Opd K A H v (.str i)) : v = .str i := by
  rcases h with h | ⟨a, rfl, h⟩
  · cases h; rfl
  · exact h.elim
theorem Opd.non {v : V} (h : Opd K A H v .none) : v = .non := by
  rcases h with h | ⟨a, rfl, h⟩
  · cases h; rfl
  · exact h.elim
theorem Opd.lst {v : V} {ds : List PyData} (s : Same A H) (h : Opd K A H v (.list ds)) : ∃ a xs, v = .ref a ∧ SqL K H a xs ∧ RepAll K A xs ds := by
  rcases h with h | ⟨a, rfl, h⟩
  · cases h with
    | lst h r => exact ⟨_, _, rfl, sqL_mono s h, r⟩
  · obtain ⟨vs, e, r⟩ := h
    exact ⟨a, vs, rfl, SqL.of e, r⟩
theorem Opd.tup {v : V} {ds : List PyData} (s : Same A H) (h : Opd K A H v (.tuple ds)) : ∃ a xs, v = .ref a ∧ SqT K H a xs ∧ RepAll K A xs ds := by
  rcases h with h | ⟨a, rfl, h⟩
  · cases h with
    | tup h r => exact ⟨_, _, rfl, sqT_mono s h, r⟩
  · exact h.elim
theorem Opd.dict {v : V} {ds} (h : Opd K A H v (.dict ds)) : False := by
  rcases h with h | ⟨a, rfl, h⟩
  · cases h
  · exact h.elim
end

/-! ### who holds what -/
def own (ρ : Env) (σ : L2.St) (b : Addr) : Prop := ∃ (i : Nat) (d : PV) (f : Fg), ρ[i]? = some (some (d, f)) ∧ f ≠ Fg.fz ∧ σ[i]? = some (some (V.ref b))
open Classical in
noncomputable def Hid (S : Addr → Prop) (H : Hp) : Hp := fun b => if S b then none else H b
noncomputable def Pub (S : Addr → Prop) (ρ : Env) (σ : L2.St) (H : Hp) : Hp := Hid (fun b => S b ∨ own ρ σ b) H
structure SR (K : PySem.W.Frag) (S : Addr → Prop) (ra : Option Addr) (ρ : Env) (σ : L2.St) (H : Hp) : Prop where
  len : ρ.length = σ.length
  fz : ∀ (i : Nat) (d : PV), ρ[i]? = some (some (d, Fg.fz)) → ∃ v, σ[i]? = some (some v) ∧ Rep K (Pub S ρ σ H) v d
  ow : ∀ (i : Nat) (d : PV) (f : Fg), ρ[i]? = some (some (d, f)) → f ≠ Fg.fz → ∃ a, σ[i]? = some (some (V.ref a)) ∧ ¬ S a ∧ Top K H (Pub S ρ σ H) a d ∧ (f = .rf → ra = some a)
  inj : ∀ (i j : Nat) (a : Addr) (d : PV) (f : Fg) (e : PV) (g : Fg), ρ[i]? = some (some (d, f)) → f ≠ Fg.fz → ρ[j]? = some (some (e, g)) → g ≠ Fg.fz → σ[i]? = some (some (V.ref a)) → σ[j]? = some (some (V.ref a)) → i = j
  tr : ∀ b, S b → H b ≠ none
section
variable {K : PySem.W.Frag} {S T : Addr → Prop} {ra : Option Addr} {ρ ρ' : Env} {σ σ' : L2.St} {H H' A B : Hp} {a b : Addr}
theorem pub_some {o : HO} (h : Pub S ρ σ H b = some o) : ¬ S b ∧ ¬ own ρ σ b ∧ H b = some o := by
  unfold Pub Hid at h
  split at h
  · cases h
  · rename_i n
    exact ⟨fun z => n (.inl z), fun z => n (.inr z), h⟩
theorem pub_of (h1 : ¬ S b) (h2 : ¬ own ρ σ b) : Pub S ρ σ H b = H b := by
  unfold Pub Hid
  rw [if_neg]
  rintro (z | z)
  · exact h1 z
  · exact h2 z
theorem pub_same : Same (Pub S ρ σ H) H := fun _ _ h => (pub_some h).2.2
/-- what is public stays public -/
theorem pub_mono (hs : ∀ b o, H b = some o → ¬ S b → ¬ own ρ σ b → ¬ T b ∧ ¬ own ρ' σ' b ∧ H' b = some o) : Same (Pub S ρ σ H) (Pub T ρ' σ' H') := fun b o h => by
  obtain ⟨h1, h2, h3⟩ := pub_some h
  obtain ⟨g1, g2, g3⟩ := hs b o h3 h1 h2
  rw [pub_of g1 g2]
  exact g3
theorem SR.ownS (r : SR K S ra ρ σ H) (h : own ρ σ b) : H b ≠ none ∧ ¬ S b := by
  obtain ⟨i, d, f, e, n, es⟩ := h
  obtain ⟨a, ea, nS, t, _⟩ := r.ow i d f e n
  rw [es] at ea
  cases ea
  exact ⟨t.some, nS⟩
/-- a new object is no one's -/
theorem SR.new (r : SR K S ra ρ σ H) (h : H b = none) : ¬ S b ∧ ¬ own ρ σ b := ⟨fun z => r.tr b z h, fun z => (r.ownS z).1 h⟩
/-- all that was tracked stays -/
theorem SR.grow (r : SR K S ra ρ σ H) (s : Same H H') : SR K S ra ρ σ H' ∧ Same (Pub S ρ σ H) (Pub S ρ σ H') ∧ ∀ b, S b → H' b = H b := by
  have hp : Same (Pub S ρ σ H) (Pub S ρ σ H') := pub_mono fun b o e h1 h2 => ⟨h1, h2, s b o e⟩
  have key : ∀ b, H b ≠ none → H' b = H b := fun b h => by
    cases e : H b with
    | none => exact absurd e h
    | some o => exact s b o e
  refine ⟨⟨r.len, fun i d e => ?_, fun i d f e n => ?_, r.inj, fun b h => by rw [key b (r.tr b h)]; exact r.tr b h⟩, hp, fun b h => key b (r.tr b h)⟩
  · obtain ⟨v, h1, h2⟩ := r.fz i d e
    exact ⟨v, h1, h2.mono hp⟩
  · obtain ⟨a, h1, h2, h3, h4⟩ := r.ow i d f e n
    exact ⟨a, h1, h2, h3.mono (key a h3.some) hp, h4⟩
theorem getv_ok {i : Nat} {d : PV} (h : getv ρ i = .ok d) : ∃ f, ρ[i]? = some (some (d, f)) := by
  unfold getv at h
  split at h
  · rename_i e
    cases h
    exact ⟨_, e⟩
  · cases h
/-- a name's value, as an operand -/
theorem SR.opd (r : SR K S ra ρ σ H) {i : Nat} {d : PV} (h : getv ρ i = .ok d) : ∃ v, σ[i]? = some (some v) ∧ Opd K (Pub S ρ σ H) H v d := by
  obtain ⟨f, e⟩ := getv_ok h
  by_cases n : f = .fz
  · subst n
    obtain ⟨v, h1, h2⟩ := r.fz i d e
    exact ⟨v, h1, .inl h2⟩
  · obtain ⟨a, h1, _, h3, _⟩ := r.ow i d f e n
    exact ⟨_, h1, .inr ⟨a, rfl, h3⟩⟩
theorem lt_of_get {α : Type} {l : List α} {i : Nat} {x : α} (h : l[i]? = some x) : i < l.length := (List.getElem?_eq_some_iff.mp h).1
/-- a name's object is let go -/
theorem SR.frz (r : SR K S ra ρ σ H) (i : Nat) : SR K S ra (frz ρ i) σ H ∧ Same (Pub S ρ σ H) (Pub S (Fh.frz ρ i) σ H) := by
  unfold Fh.frz
  split
  · rename_i d f e
    have hi := lt_of_get e
    have sub : ∀ b, own (ρ.set i (some (d, .fz))) σ b → own ρ σ b := fun b ⟨j, d', f', e', n', es⟩ => by
      by_cases hj : i = j
      · subst hj
        rw [List.getElem?_set_self hi] at e'
        cases e'
        exact absurd rfl n'
      · rw [List.getElem?_set_ne hj] at e'
        exact ⟨j, d', f', e', n', es⟩
    have hp : Same (Pub S ρ σ H) (Pub S (ρ.set i (some (d, .fz))) σ H) := pub_mono fun b o e h1 h2 => ⟨h1, fun z => h2 (sub b z), e⟩
    refine ⟨⟨by rw [List.length_set]; exact r.len, fun j d' e' => ?_, fun j d' f' e' n' => ?_, fun j k a' d1 f1 d2 f2 e1 n1 e2 n2 => ?_, r.tr⟩, hp⟩
    · by_cases hj : i = j
      · subst hj
        rw [List.getElem?_set_self hi] at e'
        cases e'
        by_cases n : f = .fz
        · subst n
          obtain ⟨v, h1, h2⟩ := r.fz i d e
          exact ⟨v, h1, h2.mono hp⟩
        · obtain ⟨a, h1, h2, h3, _⟩ := r.ow i d f e n
          refine ⟨_, h1, h3.rep (pub_of h2 fun ⟨j, d', f', e', n', es⟩ => ?_) hp⟩
          by_cases hj : i = j
          · subst hj
            rw [List.getElem?_set_self hi] at e'
            cases e'
            exact n' rfl
          · rw [List.getElem?_set_ne hj] at e'
            exact hj (r.inj i j a d f d' f' e n e' n' h1 es)
      · rw [List.getElem?_set_ne hj] at e'
        obtain ⟨v, h1, h2⟩ := r.fz j d' e'
        exact ⟨v, h1, h2.mono hp⟩
    · by_cases hj : i = j
      · subst hj
        rw [List.getElem?_set_self hi] at e'
        cases e'
        exact absurd rfl n'
      · rw [List.getElem?_set_ne hj] at e'
        obtain ⟨a, h1, h2, h3, h4⟩ := r.ow j d' f' e' n'
        exact ⟨a, h1, h2, h3.mono rfl hp, h4⟩
    · have b1 : ρ[j]? = some (some (d1, f1)) := by
        by_cases hj : i = j
        · subst hj
          rw [List.getElem?_set_self hi] at e1
          cases e1
          exact absurd rfl n1
        · rwa [List.getElem?_set_ne hj] at e1
      have b2 : ρ[k]? = some (some (d2, f2)) := by
        by_cases hj : i = k
        · subst hj
          rw [List.getElem?_set_self hi] at e2
          cases e2
          exact absurd rfl n2
        · rwa [List.getElem?_set_ne hj] at e2
      exact r.inj j k a' d1 f1 d2 f2 b1 n1 b2 n2
  · exact ⟨r, fun _ _ h => h⟩
theorem frz_get {i : Nat} {d : PV} {f : Fg} (e : ρ[i]? = some (some (d, f))) : (Fh.frz ρ i)[i]? = some (some (d, .fz)) := by
  unfold Fh.frz
  rw [e]
  exact List.getElem?_set_self (lt_of_get e)
theorem SR.frzs : ∀ (es : Exs) {ρ : Env}, SR K S ra ρ σ H → SR K S ra (frzs es ρ) σ H ∧ Same (Pub S ρ σ H) (Pub S (Fh.frzs es ρ) σ H)
  | .nil, _, r => ⟨r, fun _ _ h => h⟩
  | .cons a as, ρ, r => by
    have other : Fh.frzs (.cons a as) ρ = Fh.frzs as ρ → SR K S ra (Fh.frzs (.cons a as) ρ) σ H ∧ Same (Pub S ρ σ H) (Pub S (Fh.frzs (.cons a as) ρ) σ H) := fun e => by
      rw [e]
      exact SR.frzs as r
    cases a with
    | v i =>
      obtain ⟨r1, p1⟩ := r.frz i
      obtain ⟨r2, p2⟩ := SR.frzs as r1
      exact ⟨r2, p1.trans p2⟩
    | _ => exact other rfl

/-! ### what an operation hands back -/
/-- nothing new, public data; or a new list, a new tuple -/
inductive Res (K : PySem.W.Frag) (A H : Hp) : V → PyData → Hp → Prop
  | old {v : V} {d : PyData} : isM d = false → Rep K A v d → Res K A H v d H
  | lst {p : Addr} {vs : List V} {ds : List PyData} : H p = none → RepAll K A vs ds → Res K A H (.ref p) (.list ds) (upd H p (.lst vs))
  | tup {p : Addr} {vs : List V} {ds : List PyData} : H p = none → RepAll K A vs ds → Res K A H (.ref p) (.tuple ds) (upd H p (.tup vs))
/-- an expression's end: its value v for d, the names ρ', the heap H'; f: the caller's own -/
def Out (K : PySem.W.Frag) (S : Addr → Prop) (ra : Option Addr) (σ : L2.St) (P0 H0 : Hp) (v : V) (d : PyData) (f : Bool) (ρ' : Env) (H' : Hp) : Prop :=
  (∀ b, S b → H' b = H0 b) ∧ if f = true then ∃ a, v = V.ref a ∧ ¬ S a ∧ ¬ own ρ' σ a ∧ SR K (fun b => S b ∨ b = a) ra ρ' σ H' ∧ Top K H' (Pub (fun b => S b ∨ b = a) ρ' σ H') a d ∧ Same P0 (Pub (fun b => S b ∨ b = a) ρ' σ H')
    else SR K S ra ρ' σ H' ∧ Rep K (Pub S ρ' σ H') v d ∧ Same P0 (Pub S ρ' σ H')
theorem Out.keep {P0 H0 : Hp} {v : V} {d : PyData} {f : Bool} (o : Out K S ra σ P0 H0 v d f ρ' H') : ∀ b, S b → H' b = H0 b := o.1
theorem SR.less (r : SR K (fun b => S b ∨ b = a) ra ρ σ H) : SR K S ra ρ σ H ∧ Same (Pub (fun b => S b ∨ b = a) ρ σ H) (Pub S ρ σ H) := by
  have hp : Same (Pub (fun b => S b ∨ b = a) ρ σ H) (Pub S ρ σ H) := pub_mono fun b o e h1 h2 => ⟨fun z => h1 (.inl z), h2, e⟩
  refine ⟨⟨r.len, fun i d e => ?_, fun i d f e n => ?_, r.inj, fun b h => r.tr b (.inl h)⟩, hp⟩
  · obtain ⟨v, h1, h2⟩ := r.fz i d e
    exact ⟨v, h1, h2.mono hp⟩
  · obtain ⟨a, h1, h2, h3, h4⟩ := r.ow i d f e n
    exact ⟨a, h1, fun z => h2 (.inl z), h3.mono rfl hp, h4⟩
theorem Out.let_go {P0 H0 : Hp} {v : V} {d : PyData} {f : Bool} (o : Out K S ra σ P0 H0 v d f ρ' H') : SR K S ra ρ' σ H' ∧ Rep K (Pub S ρ' σ H') v d ∧ Same P0 (Pub S ρ' σ H') := by
  obtain ⟨_, o⟩ := o
  cases f with
  | false => exact o
  | true =>
    obtain ⟨a, rfl, nS, nO, r, t, s⟩ := o
    obtain ⟨r1, s1⟩ := r.less
    exact ⟨r1, t.rep (pub_of nS nO) s1, s.trans s1⟩
theorem same_upd {o : HO} {p : Addr} (h : H p = none) : Same H (upd H p o) := fun b u e => by
  rw [upd_ne (ne_of_none e h)]
  exact e
/-- an operation's result as an expression's end -/
theorem Res.out {v : V} {d : PyData} (r : SR K S ra ρ σ H) (h : Res K (Pub S ρ σ H) H v d H') {P0 H0 : Hp} (hP : Same P0 (Pub S ρ σ H)) (hH : ∀ b, S b → H b = H0 b) : Out K S ra σ P0 H0 v d (isM d) ρ H' := by
  cases h with
  | old m h =>
    rw [m]
    exact ⟨hH, r, h, hP⟩
  | @tup p vs ds hp h =>
    obtain ⟨r1, s1, k1⟩ := r.grow (same_upd (o := .tup vs) hp)
    obtain ⟨n1, n2⟩ := r.new hp
    refine ⟨fun b hb => (k1 b hb).trans (hH b hb), r1, .tup (SqT.of ?_) (h.mono s1), hP.trans s1⟩
    rw [pub_of n1 n2, upd_same]
  | @lst p vs ds hp h =>
    obtain ⟨r1, s1, k1⟩ := r.grow (same_upd (o := .lst vs) hp)
    obtain ⟨n1, n2⟩ := r.new hp
    have s2 : Same (Pub S ρ σ H) (Pub (fun b => S b ∨ b = p) ρ σ (upd H p (.lst vs))) := pub_mono fun b o e h1 h2 => by
      have ne := ne_of_none e hp
      exact ⟨fun z => z.elim h1 ne, h2, by rw [upd_ne ne]; exact e⟩
    have kp : ∀ b, H b ≠ none → upd H p (.lst vs) b = H b := fun b hb => upd_ne fun e => hb (e ▸ hp)
    refine ⟨fun b hb => (k1 b hb).trans (hH b hb), p, rfl, n1, n2, ⟨r.len, fun i d e => ?_, fun i d f e n => ?_, r.inj, fun b hb => ?_⟩, ⟨vs, upd_same, h.mono s2⟩, hP.trans s2⟩
    · obtain ⟨v, h1, h2⟩ := r.fz i d e
      exact ⟨v, h1, h2.mono s2⟩
    · obtain ⟨a, h1, h2, h3, h4⟩ := r.ow i d f e n
      exact ⟨a, h1, fun z => z.elim h2 fun e => h3.some (e ▸ hp), h3.mono (kp a h3.some) s2, h4⟩
    · rcases hb with hb | rfl
      · rw [kp b (r.tr b hb)]
        exact r.tr b hb
      · rw [upd_same]
        simp
/-- an operand that was evaluated before: a name's slot, or public data -/
def Held (K : PySem.W.Frag) (S : Addr → Prop) (ρ : Env) (σ : L2.St) (H : Hp) (a : Ex) (v : V) (d : PyData) : Prop := match a with
  | .v i => σ[i]? = some (some v)
  | _ => Rep K (Pub S ρ σ H) v d
theorem Held.mono {x : Ex} {v : V} {d : PyData} (h : Held K S ρ σ H x v d) (s : Same (Pub S ρ σ H) (Pub S ρ' σ H')) : Held K S ρ' σ H' x v d := by
  cases x with
  | v i => exact h
  | _ => exact Rep.mono s h
theorem Held.use {x : Ex} {v : V} {d d' : PyData} (r : SR K S ra ρ σ H) (h : Held K S ρ σ H x v d) (e : again x d ρ = .ok d') : Opd K (Pub S ρ σ H) H v d' := by
  have other : again x d ρ = .ok d → Rep K (Pub S ρ σ H) v d → Opd K (Pub S ρ σ H) H v d' := fun e2 h2 => by
    rw [e2] at e
    cases e
    exact .inl h2
  cases x with
  | v i =>
    obtain ⟨w, h1, h2⟩ := r.opd (show getv ρ i = .ok d' from e)
    have h : σ[i]? = some (some v) := h
    rw [h] at h1
    cases h1
    exact h2
  | _ => exact other rfl h

/-! ### operands in a row -/
inductive OpdAll (K : PySem.W.Frag) (A H : Hp) : List V → List PyData → Prop
  | nil : OpdAll K A H [] []
  | cons {v : V} {vs : List V} {d : PyData} {ds : List PyData} : Opd K A H v d → OpdAll K A H vs ds → OpdAll K A H (v :: vs) (d :: ds)
inductive HeldAll (K : PySem.W.Frag) (S : Addr → Prop) (ρ : Env) (σ : L2.St) (H : Hp) : Exs → List V → List PyData → Prop
  | nil : HeldAll K S ρ σ H .nil [] []
  | cons {a : Ex} {as : Exs} {v : V} {vs : List V} {d : PyData} {ds : List PyData} : Held K S ρ σ H a v d → HeldAll K S ρ σ H as vs ds → HeldAll K S ρ σ H (.cons a as) (v :: vs) (d :: ds)
theorem HeldAll.mono (s : Same (Pub S ρ σ H) (Pub S ρ' σ H')) : ∀ {es : Exs} {vs : List V} {ds : List PyData}, HeldAll K S ρ σ H es vs ds → HeldAll K S ρ' σ H' es vs ds
  | _, _, _, .nil => .nil
  | _, _, _, .cons h r => .cons (h.mono s) (r.mono s)
theorem agains_cons {a : Ex} {as : Exs} {x : PV} {xs ds : List PV} (e : agains (.cons a as) (x :: xs) ρ = .ok ds) : ∃ d ds', ds = d :: ds' ∧ again a x ρ = .ok d ∧ agains as xs ρ = .ok ds' := by
  have e : (again a x ρ).bind (fun x => (agains as xs ρ).bind fun xs => R.ok (x :: xs)) = .ok ds := e
  cases h : again a x ρ with
  | ok d =>
    rw [h] at e
    cases h2 : agains as xs ρ with
    | ok ds' =>
      rw [h2] at e
      cases e
      exact ⟨d, ds', rfl, rfl, rfl⟩
    | er _ _ => rw [h2] at e; cases e
    | st => rw [h2] at e; cases e
  | er _ _ => rw [h] at e; cases e
  | st => rw [h] at e; cases e
theorem HeldAll.opd (r : SR K S ra ρ σ H) : ∀ {es : Exs} {vs : List V} {xs ds : List PyData}, HeldAll K S ρ σ H es vs xs → agains es xs ρ = .ok ds → OpdAll K (Pub S ρ σ H) H vs ds
  | _, _, _, _, .nil, e => by
    cases e
    exact .nil
  | _, _, _, _, .cons h q, e => by
    obtain ⟨d, ds', rfl, e1, e2⟩ := agains_cons e
    exact .cons (h.use r e1) (q.opd r e2)
theorem HeldAll.length : ∀ {es : Exs} {vs : List V} {xs : List PyData}, HeldAll K S ρ σ H es vs xs → vs.length = xs.length
  | _, _, _, .nil => rfl
  | _, _, _, .cons _ r => congrArg (· + 1) r.length
theorem agains_length : ∀ {es : Exs} {xs ds : List PV}, agains es xs ρ = .ok ds → xs.length = ds.length
  | .nil, [], _, e => by cases e; rfl
  | .cons a as, x :: xs, ds, e => by
    obtain ⟨d, ds', rfl, e1, e2⟩ := agains_cons e
    exact congrArg (· + 1) (agains_length e2)
  | .nil, _ :: _, _, e => by cases e
  | .cons _ _, [], _, e => by cases e
/-- a name that was let go is let go -/
theorem frz_fz {i j : Nat} {d : PV} (h : ρ[i]? = some (some (d, .fz))) : (Fh.frz ρ j)[i]? = some (some (d, .fz)) := by
  unfold Fh.frz
  split
  · rename_i d' f' e
    by_cases hj : j = i
    · subst hj
      rw [h] at e
      cases e
      exact List.getElem?_set_self (lt_of_get h)
    · rw [List.getElem?_set_ne hj]
      exact h
  · exact h
theorem frzs_fz {i : Nat} {d : PV} : ∀ {es : Exs} {ρ : Env}, ρ[i]? = some (some (d, .fz)) → (frzs es ρ)[i]? = some (some (d, .fz))
  | .nil, _, h => h
  | .cons a as, ρ, h => by
    cases a with
    | v j => exact frzs_fz (es := as) (frz_fz h)
    | _ => exact frzs_fz (es := as) h
theorem frz_any {i j : Nat} {d : PV} {f : Fg} (h : ρ[i]? = some (some (d, f))) : ∃ f', (Fh.frz ρ j)[i]? = some (some (d, f')) := by
  by_cases hj : j = i
  · subst hj
    exact ⟨_, frz_get h⟩
  · unfold Fh.frz
    split
    · rw [List.getElem?_set_ne hj]
      exact ⟨f, h⟩
    · exact ⟨f, h⟩
/-- the operands, public once their names are let go -/
theorem HeldAll.rep : ∀ {es : Exs} {vs : List V} {xs ds : List PyData} {ρ0 ρ : Env}, SR K S ra ρ σ H → HeldAll K S ρ σ H es vs xs → agains es xs ρ0 = .ok ds → (∀ (i : Nat) (d : PV), getv ρ0 i = .ok d → ∃ f, ρ[i]? = some (some (d, f))) →
    RepAll K (Pub S (frzs es ρ) σ H) vs ds
  | _, _, _, _, _, _, r, .nil, e, _ => by
    cases e
    exact .nil
  | _, _, _, _, ρ0, ρ, r, @HeldAll.cons _ _ _ _ _ a as v vs x xs h q, e, hg => by
    obtain ⟨d, ds', rfl, e1, e2⟩ := agains_cons e
    have other : Fh.frzs (.cons a as) ρ = Fh.frzs as ρ → again a x ρ0 = .ok x → Rep K (Pub S ρ σ H) v x → RepAll K (Pub S (frzs (.cons a as) ρ) σ H) (v :: vs) (d :: ds') := fun e3 e4 h4 => by
      rw [e4] at e1
      cases e1
      rw [e3]
      exact .cons (h4.mono (SR.frzs as r).2) (q.rep r e2 hg)
    cases a with
    | v i =>
      obtain ⟨r1, s1⟩ := r.frz i
      obtain ⟨f, ef⟩ := hg i d e1
      have q1 := (q.mono s1).rep r1 e2 fun j dj ej => by
        obtain ⟨g, eg⟩ := hg j dj ej
        exact frz_any eg
      refine .cons ?_ q1
      have ez : (frzs (.cons (.v i) as) ρ)[i]? = some (some (d, .fz)) := frzs_fz (es := as) (frz_get ef)
      obtain ⟨w, h1, h2⟩ := (SR.frzs (.cons (.v i) as) r).1.fz i d ez
      have h : σ[i]? = some (some v) := h
      rw [h] at h1
      cases h1
      exact h2
    | _ => exact other rfl rfl h
end
end Fh

set_option maxHeartbeats 2000000
/-! Fh: min(..), max(..) of data. -/
namespace Fh
open PySem PySem.Spec PyProof.Rows L2

/-- min's loop: what is met keeps the heap Hb, over which the items are told apart -/
def Cmpmin (prog : Program) (w : World) (A : Around) (Hb : Heap) (P : Nat → Value → Prop) (bt : Nat → Nat → Bool) : Prop := ∀ (i j : Nat) (x y : Value) (s : Shared) (Q : Value → Shared → Prop) (E : Value → Shared → Prop), (∀ b o, Hb.get? b = some o → s.heap.get? b = some o) → P i x → P j y → Q (.bool (bt i j)) s → wpAny (model prog w) A (richCompare .Lt x y) Q E s
section
variable {prog : Program} {w : World} {A : Around} {Z : Result → Shared → Prop} {it : Addr} {fp wr : List Addr} {n : Nat} {P : Nat → Value → Prop} {St : Nat → Heap → Prop} {Hb : Heap} {bt : Nat → Nat → Bool}
theorem min_loopD (wk : Walks prog w A.in1 it fp wr n P St) (hc : Cmpmin prog w A.in1 Hb P bt) (B : Addr) (hB : B ∉ fp) (hBb : ∀ o, Hb.get? B ≠ some o) (hwb : ∀ b ∈ wr, ∀ o, Hb.get? b ≠ some o) : ∀ (m j : Nat) (s : Shared) (x : Value) (c : Nat), n = m + (j + 1) → (∀ b o, Hb.get? b = some o → s.heap.get? b = some o) → St (j + 1) s.heap → P (argBest bt j) x →
    s.heap.get? B = some { cls := .type "list", dict := none, data := .seq #[x, x] c, slots := #[] } → (∀ y g tk, P (argBest bt (n - 1)) y → (∀ b o, Hb.get? b = some o → g.get? b = some o) → (∀ b o, b ∉ wr → b ≠ B → s.heap.get? b = some o → g.get? b = some o) → Z (.ok (.ret y)) { s with heap := g, toks := tk }) →
    codeAny (model prog w) A (.builtin "min.loop" ⟨[.ref it, .none, .ref B], []⟩) Z s := by
  have bw : B ∉ wr := fun z => hB (wk.sub _ z)
  have nm : (toString "min" ++ toString ".loop" : String) = "min.loop" := by decide
  have up : ∀ {g : Heap} {f : Obj → Obj} {b : Addr} {o : Obj}, b ≠ B → g.get? b = some o → (g.update B f).get? b = some o := fun {g f b o} nb e => (Heap.get?_update_other _ _ (Ne.symm nb)).trans e
  have notB : ∀ b o, Hb.get? b = some o → b ≠ B := fun b o e z => hBb o (by rw [← z]; exact e)
  have notW : ∀ b o, Hb.get? b = some o → b ∉ wr := fun b o e z => hwb b z o e
  intro m
  induction m with
  | zero =>
    intro j s x c hn hk st px e hZ
    have ej : n = j + 1 := by omega
    refine codeAny_builtin PySem.F.entry_min_loop (by
      rw [Around.under_plainId PySem.F.plain_min_loop _]
      show wpAny _ A.in1 (seqItems? (.ref B) >>= _) _ _ s
      exact wpAny_bind (wpAny_seqItems e rfl (by
        show wpAny _ A.in1 (tryCatch (pyNext (.ref it)) _ >>= _) _ _ s
        exact wpAny_bind (wpAny_tryCatch (wk.done s _ _ (by rw [ej]; exact st) fun g tk kg => by
          show wpAny _ A.in1 (updateSeq B (fun _ => #[]) >>= _) _ _ _
          exact wpAny_bind (wpAny_updateSeq (kg B _ bw e) rfl (wpAny_bind (wpAny_letGo (wpAny_pure (hZ x _ tk (by rw [ej]; exact px) (fun b o q => up (notB b o q) (kg b o (notW b o q) (hk b o q))) fun b o h1 h2 q => up h2 (kg b o h1 q)))))))))))
  | succ m ih =>
    intro j s x c hn hk st px e hZ
    refine codeAny_builtin PySem.F.entry_min_loop ?_
    rw [Around.under_plainId PySem.F.plain_min_loop _]
    show wpAny _ A.in1 (seqItems? (.ref B) >>= _) _ _ s
    refine wpAny_bind (wpAny_seqItems e rfl (wpAny_bind (wpAny_tryCatch (wk.item (j + 1) s _ _ (by omega) st fun y g tk py st1 kg => ?_))))
    have e1 := kg B _ bw e
    have hk1 : ∀ b o, Hb.get? b = some o → g.get? b = some o := fun b o q => kg b o (notW b o q) (hk b o q)
    show wpAny _ A.in1 (tryCatch (holding [y, y] (richCompare .Lt y x >>= _)) _ >>= _) _ _ _
    refine wpAny_bind (wpAny_tryCatch (wpAny_holding (wpAny_bind (hc (j + 1) (argBest bt j) y x { s with heap := g, toks := tk } _ _ hk1 py px (wpAny_bind (wpAny_holding (wpAny_truthy_bool (wpAny_bind (wpAny_letGo (wpAny_pure ?_))))))))))
    by_cases hb : bt (j + 1) (argBest bt j) = true
    · rw [if_pos hb]
      refine wpAny_bind (wpAny_updateSeq e1 rfl (wpAny_bind (wpAny_letGo ?_)))
      rw [nm]
      exact wpAny_pure ⟨plainId_quiet PySem.F.plain_min_loop _, ih (j + 1) _ y _ (by omega) (fun b o q => up (notB b o q) (hk1 b o q)) (wk.frame _ _ _ st1 fun b hf o q => up (fun z => hB (by rw [← z]; exact hf)) q) (by simp only [argBest, hb, if_true]; exact py) (Heap.get?_update_self _ e1 rfl)
        fun y2 g2 tk2 p2 k2 k3 => hZ y2 g2 tk2 p2 k2 fun b o h1 h2 q => k3 b o h1 h2 (up h2 (kg b o h1 q))⟩
    · have hb : bt (j + 1) (argBest bt j) = false := by
        cases q : bt (j + 1) (argBest bt j) with
        | false => rfl
        | true => exact absurd q hb
      rw [if_neg (by rw [hb]; decide)]
      refine wpAny_bind (wpAny_letGo ?_)
      rw [nm]
      exact wpAny_pure ⟨plainId_quiet PySem.F.plain_min_loop _, ih (j + 1) _ x c (by omega) hk1 st1 (by simp only [argBest, hb, Bool.false_eq_true, if_false]; exact px) e1 fun y2 g2 tk2 p2 k2 k3 => hZ y2 g2 tk2 p2 k2 fun b o h1 h2 q => k3 b o h1 h2 (kg b o h1 q)⟩
/-- min(xs), xs a list -/
theorem min_callD {E : Value → Shared → Prop} {s : Shared} {l : Addr} {items : Array Value} {Q : Value → Shared → Prop} (hh : A.handled = none) (hl : s.heap.IsList l items) (h0 : 0 < items.size) (hc : Cmpmin prog w A.in1 s.heap (fun i v => items[i]? = some v) bt)
    (hQ : ∀ y g tk, items[argBest bt (items.size - 1)]? = some y → (∀ b o, s.heap.get? b = some o → g.get? b = some o) → Q y { s with heap := g, toks := tk }) : wpAny (model prog w) A (call (.builtin "min") [.ref l]) Q E s := by
  have nm : (toString "min" ++ toString ".loop" : String) = "min.loop" := by decide
  refine call_function_tree PySem.F.kind_min PySem.F.plain_min PySem.F.entry_min (PySem.F.args_min1 _) ?_
  show wpAny _ A.in1 (Builtin.Builtins.bindParams "min" ["key", "default"] 0 ⟨[], []⟩ >>= _) _ _ s
  refine wpAny_bind (wpAny_of_eq (show Builtin.Builtins.bindParams "min" ["key", "default"] 0 ⟨[], []⟩ = pure [none, none] from rfl) (wpAny_bind (wpAny_pure (wpAny_bind ?_))))
  refine wpAny_pyIter_list hl ?_
  have hlt : l < s.heap.objs.size := by
    obtain ⟨o, q, _⟩ := hl
    exact Heap.lt_size q
  have z1 : (s.heap.push { cls := .type "list_iterator", data := .fields #[.ref l, .int 0 0] }).objs.size = s.heap.objs.size + 1 := Heap.size_push ..
  have k1 : ∀ b o, s.heap.get? b = some o → (s.heap.push { cls := .type "list_iterator", data := .fields #[.ref l, .int 0 0] }).get? b = some o := fun b o q => Heap.get?_push_of_some _ q
  refine wpAny_bind (wpAny_newObj_type ?_)
  rw [nm]
  have wk := Walks.list (prog := prog) (w := w) (A := A.in1) hh s.heap.objs.size l (Nat.ne_of_lt hlt) items
  generalize hg1 : (s.heap.push { cls := .type "list_iterator", data := .fields #[.ref l, .int 0 0] }) = g1 at z1 k1 ⊢
  have it0 : g1.IsListIter s.heap.objs.size l 0 := by rw [← hg1]; exact ⟨_, Heap.get?_push_size _ rfl, rfl, rfl⟩
  have k2 : ∀ b o, g1.get? b = some o → (g1.push { cls := .type "list", data := .seq ([] : List Value).toArray }).get? b = some o := fun b o q => Heap.get?_push_of_some _ q
  have nofr : ∀ b, s.heap.objs.size ≤ b → ∀ o, s.heap.get? b ≠ some o := fun b hb o q => absurd (Heap.lt_size q) (Nat.not_lt.mpr hb)
  refine wpAny_pure ⟨plainId_quiet PySem.F.plain_min_loop _, ?_⟩
  have hB : g1.objs.size ∉ [s.heap.objs.size, l] := by
    rw [z1]
    simp only [List.mem_cons, List.not_mem_nil, or_false, not_or]
    exact ⟨Nat.succ_ne_self _, Nat.ne_of_gt (Nat.lt_succ_of_lt hlt)⟩
  refine codeAny_builtin PySem.F.entry_min_loop ?_
  rw [Around.under_plainId PySem.F.plain_min_loop _]
  have eB : (g1.push { cls := .type "list", data := .seq ([] : List Value).toArray }).get? g1.objs.size = some { cls := .type "list", dict := none, data := .seq #[] 0, slots := #[] } := Heap.get?_push_size _ rfl
  show wpAny _ A.in1 (seqItems? (.ref g1.objs.size) >>= _) _ _ _
  refine wpAny_bind (wpAny_seqItems eB rfl (wpAny_bind (wpAny_tryCatch (wk.item 0 _ _ _ h0 ⟨it0.at fun o q => k2 _ _ q, hl.at fun o q => k2 _ _ (k1 _ _ q)⟩ fun y g tk py st1 kg => ?_))))
  have bw : g1.objs.size ∉ [s.heap.objs.size] := fun z => hB (List.mem_cons.mpr (.inl (List.mem_singleton.mp z)))
  have e1 := kg g1.objs.size _ bw eB
  show wpAny _ A.in1 (updateSeq g1.objs.size (fun _ => #[y, y]) >>= _) _ _ _
  refine wpAny_bind (wpAny_updateSeq e1 rfl ?_)
  rw [nm]
  have up : ∀ {f : Obj → Obj} {b : Addr} {o : Obj}, b ≠ g1.objs.size → g.get? b = some o → (g.update g1.objs.size f).get? b = some o := fun {f b o} nb e => (Heap.get?_update_other _ _ (Ne.symm nb)).trans e
  have old : ∀ b o, s.heap.get? b = some o → b ≠ g1.objs.size ∧ g.get? b = some o := fun b o q => by
    have hb := Heap.lt_size q
    exact ⟨by rw [z1]; exact Nat.ne_of_lt (Nat.lt_succ_of_lt hb), kg b o (fun z => Nat.ne_of_lt hb (List.mem_singleton.mp z)) (k2 _ _ (k1 _ _ q))⟩
  refine wpAny_pure ⟨plainId_quiet PySem.F.plain_min_loop _, min_loopD wk hc g1.objs.size hB (nofr _ (by rw [z1]; exact Nat.le_succ _)) (fun b hb => nofr b (by rw [List.mem_singleton.mp hb]; exact Nat.le_refl _)) (items.size - 1) 0 _ y _ (by omega) (fun b o q => up (old b o q).1 (old b o q).2)
    (wk.frame _ _ _ st1 fun b hf o q => up (fun z => hB (by rw [← z]; exact hf)) q) py (Heap.get?_update_self _ e1 rfl) fun y2 g2 tk2 p2 k3 _ => hQ y2 g2 tk2 p2 k3⟩
end

/-- max's loop: what is met keeps the heap Hb, over which the items are told apart -/
def Cmpmax (prog : Program) (w : World) (A : Around) (Hb : Heap) (P : Nat → Value → Prop) (bt : Nat → Nat → Bool) : Prop := ∀ (i j : Nat) (x y : Value) (s : Shared) (Q : Value → Shared → Prop) (E : Value → Shared → Prop), (∀ b o, Hb.get? b = some o → s.heap.get? b = some o) → P i x → P j y → Q (.bool (bt i j)) s → wpAny (model prog w) A (richCompare .Gt x y) Q E s
section
variable {prog : Program} {w : World} {A : Around} {Z : Result → Shared → Prop} {it : Addr} {fp wr : List Addr} {n : Nat} {P : Nat → Value → Prop} {St : Nat → Heap → Prop} {Hb : Heap} {bt : Nat → Nat → Bool}
theorem max_loopD (wk : Walks prog w A.in1 it fp wr n P St) (hc : Cmpmax prog w A.in1 Hb P bt) (B : Addr) (hB : B ∉ fp) (hBb : ∀ o, Hb.get? B ≠ some o) (hwb : ∀ b ∈ wr, ∀ o, Hb.get? b ≠ some o) : ∀ (m j : Nat) (s : Shared) (x : Value) (c : Nat), n = m + (j + 1) → (∀ b o, Hb.get? b = some o → s.heap.get? b = some o) → St (j + 1) s.heap → P (argBest bt j) x →
    s.heap.get? B = some { cls := .type "list", dict := none, data := .seq #[x, x] c, slots := #[] } → (∀ y g tk, P (argBest bt (n - 1)) y → (∀ b o, Hb.get? b = some o → g.get? b = some o) → (∀ b o, b ∉ wr → b ≠ B → s.heap.get? b = some o → g.get? b = some o) → Z (.ok (.ret y)) { s with heap := g, toks := tk }) →
    codeAny (model prog w) A (.builtin "max.loop" ⟨[.ref it, .none, .ref B], []⟩) Z s := by
  have bw : B ∉ wr := fun z => hB (wk.sub _ z)
  have nm : (toString "max" ++ toString ".loop" : String) = "max.loop" := by decide
  have up : ∀ {g : Heap} {f : Obj → Obj} {b : Addr} {o : Obj}, b ≠ B → g.get? b = some o → (g.update B f).get? b = some o := fun {g f b o} nb e => (Heap.get?_update_other _ _ (Ne.symm nb)).trans e
  have notB : ∀ b o, Hb.get? b = some o → b ≠ B := fun b o e z => hBb o (by rw [← z]; exact e)
  have notW : ∀ b o, Hb.get? b = some o → b ∉ wr := fun b o e z => hwb b z o e
  intro m
  induction m with
  | zero =>
    intro j s x c hn hk st px e hZ
    have ej : n = j + 1 := by omega
    refine codeAny_builtin PySem.F.entry_max_loop (by
      rw [Around.under_plainId PySem.F.plain_max_loop _]
      show wpAny _ A.in1 (seqItems? (.ref B) >>= _) _ _ s
      exact wpAny_bind (wpAny_seqItems e rfl (by
        show wpAny _ A.in1 (tryCatch (pyNext (.ref it)) _ >>= _) _ _ s
        exact wpAny_bind (wpAny_tryCatch (wk.done s _ _ (by rw [ej]; exact st) fun g tk kg => by
          show wpAny _ A.in1 (updateSeq B (fun _ => #[]) >>= _) _ _ _
          exact wpAny_bind (wpAny_updateSeq (kg B _ bw e) rfl (wpAny_bind (wpAny_letGo (wpAny_pure (hZ x _ tk (by rw [ej]; exact px) (fun b o q => up (notB b o q) (kg b o (notW b o q) (hk b o q))) fun b o h1 h2 q => up h2 (kg b o h1 q)))))))))))
  | succ m ih =>
    intro j s x c hn hk st px e hZ
    refine codeAny_builtin PySem.F.entry_max_loop ?_
    rw [Around.under_plainId PySem.F.plain_max_loop _]
    show wpAny _ A.in1 (seqItems? (.ref B) >>= _) _ _ s
    refine wpAny_bind (wpAny_seqItems e rfl (wpAny_bind (wpAny_tryCatch (wk.item (j + 1) s _ _ (by omega) st fun y g tk py st1 kg => ?_))))
    have e1 := kg B _ bw e
    have hk1 : ∀ b o, Hb.get? b = some o → g.get? b = some o := fun b o q => kg b o (notW b o q) (hk b o q)
    show wpAny _ A.in1 (tryCatch (holding [y, y] (richCompare .Gt y x >>= _)) _ >>= _) _ _ _
    refine wpAny_bind (wpAny_tryCatch (wpAny_holding (wpAny_bind (hc (j + 1) (argBest bt j) y x { s with heap := g, toks := tk } _ _ hk1 py px (wpAny_bind (wpAny_holding (wpAny_truthy_bool (wpAny_bind (wpAny_letGo (wpAny_pure ?_))))))))))
    by_cases hb : bt (j + 1) (argBest bt j) = true
    · rw [if_pos hb]
      refine wpAny_bind (wpAny_updateSeq e1 rfl (wpAny_bind (wpAny_letGo ?_)))
      rw [nm]
      exact wpAny_pure ⟨plainId_quiet PySem.F.plain_max_loop _, ih (j + 1) _ y _ (by omega) (fun b o q => up (notB b o q) (hk1 b o q)) (wk.frame _ _ _ st1 fun b hf o q => up (fun z => hB (by rw [← z]; exact hf)) q) (by simp only [argBest, hb, if_true]; exact py) (Heap.get?_update_self _ e1 rfl)
        fun y2 g2 tk2 p2 k2 k3 => hZ y2 g2 tk2 p2 k2 fun b o h1 h2 q => k3 b o h1 h2 (up h2 (kg b o h1 q))⟩
    · have hb : bt (j + 1) (argBest bt j) = false := by
        cases q : bt (j + 1) (argBest bt j) with
        | false => rfl
        | true => exact absurd q hb
      rw [if_neg (by rw [hb]; decide)]
      refine wpAny_bind (wpAny_letGo ?_)
      rw [nm]
      exact wpAny_pure ⟨plainId_quiet PySem.F.plain_max_loop _, ih (j + 1) _ x c (by omega) hk1 st1 (by simp only [argBest, hb, Bool.false_eq_true, if_false]; exact px) e1 fun y2 g2 tk2 p2 k2 k3 => hZ y2 g2 tk2 p2 k2 fun b o h1 h2 q => k3 b o h1 h2 (kg b o h1 q)⟩
/-- max(xs), xs a list -/
theorem max_callD {E : Value → Shared → Prop} {s : Shared} {l : Addr} {items : Array Value} {Q : Value → Shared → Prop} (hh : A.handled = none) (hl : s.heap.IsList l items) (h0 : 0 < items.size) (hc : Cmpmax prog w A.in1 s.heap (fun i v => items[i]? = some v) bt)
    (hQ : ∀ y g tk, items[argBest bt (items.size - 1)]? = some y → (∀ b o, s.heap.get? b = some o → g.get? b = some o) → Q y { s with heap := g, toks := tk }) : wpAny (model prog w) A (call (.builtin "max") [.ref l]) Q E s := by
  have nm : (toString "max" ++ toString ".loop" : String) = "max.loop" := by decide
  refine call_function_tree PySem.F.kind_max PySem.F.plain_max PySem.F.entry_max (PySem.F.args_max1 _) ?_
  show wpAny _ A.in1 (Builtin.Builtins.bindParams "max" ["key", "default"] 0 ⟨[], []⟩ >>= _) _ _ s
  refine wpAny_bind (wpAny_of_eq (show Builtin.Builtins.bindParams "max" ["key", "default"] 0 ⟨[], []⟩ = pure [none, none] from rfl) (wpAny_bind (wpAny_pure (wpAny_bind ?_))))
  refine wpAny_pyIter_list hl ?_
  have hlt : l < s.heap.objs.size := by
    obtain ⟨o, q, _⟩ := hl
    exact Heap.lt_size q
  have z1 : (s.heap.push { cls := .type "list_iterator", data := .fields #[.ref l, .int 0 0] }).objs.size = s.heap.objs.size + 1 := Heap.size_push ..
  have k1 : ∀ b o, s.heap.get? b = some o → (s.heap.push { cls := .type "list_iterator", data := .fields #[.ref l, .int 0 0] }).get? b = some o := fun b o q => Heap.get?_push_of_some _ q
  refine wpAny_bind (wpAny_newObj_type ?_)
  rw [nm]
  have wk := Walks.list (prog := prog) (w := w) (A := A.in1) hh s.heap.objs.size l (Nat.ne_of_lt hlt) items
  generalize hg1 : (s.heap.push { cls := .type "list_iterator", data := .fields #[.ref l, .int 0 0] }) = g1 at z1 k1 ⊢
  have it0 : g1.IsListIter s.heap.objs.size l 0 := by rw [← hg1]; exact ⟨_, Heap.get?_push_size _ rfl, rfl, rfl⟩
  have k2 : ∀ b o, g1.get? b = some o → (g1.push { cls := .type "list", data := .seq ([] : List Value).toArray }).get? b = some o := fun b o q => Heap.get?_push_of_some _ q
  have nofr : ∀ b, s.heap.objs.size ≤ b → ∀ o, s.heap.get? b ≠ some o := fun b hb o q => absurd (Heap.lt_size q) (Nat.not_lt.mpr hb)
  refine wpAny_pure ⟨plainId_quiet PySem.F.plain_max_loop _, ?_⟩
  have hB : g1.objs.size ∉ [s.heap.objs.size, l] := by
    rw [z1]
    simp only [List.mem_cons, List.not_mem_nil, or_false, not_or]
    exact ⟨Nat.succ_ne_self _, Nat.ne_of_gt (Nat.lt_succ_of_lt hlt)⟩
  refine codeAny_builtin PySem.F.entry_max_loop ?_
  rw [Around.under_plainId PySem.F.plain_max_loop _]
  have eB : (g1.push { cls := .type "list", data := .seq ([] : List Value).toArray }).get? g1.objs.size = some { cls := .type "list", dict := none, data := .seq #[] 0, slots := #[] } := Heap.get?_push_size _ rfl
  show wpAny _ A.in1 (seqItems? (.ref g1.objs.size) >>= _) _ _ _
  refine wpAny_bind (wpAny_seqItems eB rfl (wpAny_bind (wpAny_tryCatch (wk.item 0 _ _ _ h0 ⟨it0.at fun o q => k2 _ _ q, hl.at fun o q => k2 _ _ (k1 _ _ q)⟩ fun y g tk py st1 kg => ?_))))
  have bw : g1.objs.size ∉ [s.heap.objs.size] := fun z => hB (List.mem_cons.mpr (.inl (List.mem_singleton.mp z)))
  have e1 := kg g1.objs.size _ bw eB
  show wpAny _ A.in1 (updateSeq g1.objs.size (fun _ => #[y, y]) >>= _) _ _ _
  refine wpAny_bind (wpAny_updateSeq e1 rfl ?_)
  rw [nm]
  have up : ∀ {f : Obj → Obj} {b : Addr} {o : Obj}, b ≠ g1.objs.size → g.get? b = some o → (g.update g1.objs.size f).get? b = some o := fun {f b o} nb e => (Heap.get?_update_other _ _ (Ne.symm nb)).trans e
  have old : ∀ b o, s.heap.get? b = some o → b ≠ g1.objs.size ∧ g.get? b = some o := fun b o q => by
    have hb := Heap.lt_size q
    exact ⟨by rw [z1]; exact Nat.ne_of_lt (Nat.lt_succ_of_lt hb), kg b o (fun z => Nat.ne_of_lt hb (List.mem_singleton.mp z)) (k2 _ _ (k1 _ _ q))⟩
  refine wpAny_pure ⟨plainId_quiet PySem.F.plain_max_loop _, max_loopD wk hc g1.objs.size hB (nofr _ (by rw [z1]; exact Nat.le_succ _)) (fun b hb => nofr b (by rw [List.mem_singleton.mp hb]; exact Nat.le_refl _)) (items.size - 1) 0 _ y _ (by omega) (fun b o q => up (old b o q).1 (old b o q).2)
    (wk.frame _ _ _ st1 fun b hf o q => up (fun z => hB (by rw [← z]; exact hf)) q) py (Heap.get?_update_self _ e1 rfl) fun y2 g2 tk2 p2 k3 _ => hQ y2 g2 tk2 p2 k3⟩
end

end Fh

set_option maxHeartbeats 1000000
/-! Fh: the operations keep what the evaluator says. -/
namespace Fh
open PySem PySem.Spec PyProof.Rows L2
def opr : Op2 → Operator
  | .add => .Add | .sub => .Sub | .mul => .Mult | .fdiv => .FloorDiv | .mod => .Mod | .pow => .Pow | .shl => .LShift
def cmr : Cm → CmpOp
  | .eq => .Eq | .ne => .NotEq | .lt => .Lt | .le => .LtE | .gt => .Gt | .ge => .GtE | .isin => .In | .notin => .NotIn
section
variable {X : Cx}
/-! ### + - * // % ** << -/
theorem ite_ok {α : Type} {c : Prop} [Decidable c] {a : α} {d : α} (h : (if c then R.ok a else R.st) = R.ok d) : c ∧ a = d := by
  by_cases e : c
  · rw [if_pos e] at h
    cases h
    exact ⟨e, rfl⟩
  · rw [if_neg e] at h
    cases h
theorem bind_ok {α β : Type} {r : R α} {f : α → R β} {b : β} (h : r.bind f = .ok b) : ∃ a, r = .ok a ∧ f a = .ok b := by
  cases r with
  | ok a => exact ⟨a, rfl, h⟩
  | er c x => cases h
  | st => cases h
theorem of_ok {α : Type} {r : Option α} {b : α} (h : R.of r = .ok b) : r = some b := by
  cases r with
  | none => cases h
  | some a => cases h; rfl
theorem mulOk_ok {i j : Int} (h : mulOk i j = true) : IntMulOk i j := by
  unfold mulOk small at h
  rw [Bool.or_eq_true, Bool.or_eq_true, Bool.and_eq_true, Bool.and_eq_true] at h
  rcases h with (⟨h1, h2⟩ | ⟨h1, h2⟩) | h
  · exact .of_left (intBits_le_64 (of_decide_eq_true h1) (of_decide_eq_true h2))
  · exact .of_right (intBits_le_64 (of_decide_eq_true h1) (of_decide_eq_true h2))
  · exact CMulW.ok (show i.natAbs.log2 + j.natAbs.log2 < 1000000 from of_decide_eq_true h)
def rAr (K : PySem.W.Frag) (o : Op2) : R2 := fun x y H Q => ∃ A dx dy dz, Same A H ∧ Opd K A H x dx ∧ Opd K A H y dy ∧ arith o dx dy = .ok dz ∧ ∀ v H', Res K A H v dz H' → Q v H'
theorem cat_lists {pins : List (Addr × Obj)} {s : Shared} {σ : L2.St} {H : Hp} {a b : Addr} {xs ys : List V} {Q : VK} (I : Inv X pins σ H s) (ha : SqL X.K H a xs) (hb : SqL X.K H b ys) (hz : xs.length + ys.length ≤ sizeLine)
    (q : ∀ p, H p = none → Q (.ref p) (upd H p (.lst (xs ++ ys)))) : wpAny (model X.prog X.w) X.A (binaryOp .Add (.ref a) (.ref b)) (EP X pins σ Q) X.xe s := by
  obtain ⟨its, r1, ⟨⟨cls, dd, data, sl⟩, n, ho, hc, _, hd⟩, _⟩ := I.list ha
  obtain ⟨its2, r2, ⟨⟨cls2, dd2, data2, sl2⟩, n2, ho2, hc2, _, hd2⟩, _⟩ := I.list hb
  simp only at hc hd hc2 hd2
  subst hc hd hc2 hd2
  refine concat_meets ⟨_, ho, rfl⟩ ⟨_, ho2, rfl⟩ noFill_list_add seq_list_add PySem.F.slot_list_add PySem.F.entry_list_add (PySem.F.args_list_add_2 _ _) (list_addW a b its.toArray its2.toArray n n2 dd dd2 sl sl2 (by have h1 := r1.length; have h2 := r2.length; simp only [List.size_toArray]; omega)) ⟨ho, ho2, ?_⟩
  have e : its.toArray ++ its2.toArray = (its ++ its2).toArray := by simp
  rw [e]
  exact ⟨.ref _, _, I.lnew (t' := s.toks) (r1.append r2) (by rw [List.length_append]; omega), rfl, q _ I.fresh⟩
theorem op_ar (o : Op2) : OpR X (binaryOp (opr o)) (rAr X.K o) := by
  intro pins s σ H x y v u Q I rx ry h
  obtain ⟨A, dx, dy, dz, hA, ox, oy, e, q⟩ := h
  have qi : ∀ i : Int, dz = .int i → Q (.int i) H := fun i e => q _ _ (by subst e; exact .old rfl (.int i))
  cases o with
  | add =>
    cases dx with
    | int a =>
      cases dy with
      | int b =>
        obtain rfl := ox.int
        obtain rfl := oy.int
        exact op_add pins s σ H _ _ v u Q I rx ry ⟨a, b, rfl, rfl, qi _ (by cases e; rfl)⟩
      | _ => cases e
    | str a =>
      cases dy with
      | str b =>
        obtain rfl := ox.str
        obtain rfl := oy.str
        obtain ⟨c, rfl⟩ := ite_ok e
        exact op_add_str pins s σ H _ _ v u Q I rx ry ⟨a, b, rfl, rfl, c, q _ _ (.old rfl (.str _))⟩
      | _ => cases e
    | list a =>
      cases dy with
      | list b =>
        obtain ⟨p1, xs, rfl, h1, r1⟩ := ox.lst hA
        obtain ⟨p2, ys, rfl, h2, r2⟩ := oy.lst hA
        obtain ⟨c, rfl⟩ := ite_ok e
        cases rx
        cases ry
        exact cat_lists I h1 h2 (by rw [r1.length, r2.length]; exact c) fun p hp => q _ _ (.lst hp (r1.append r2))
      | _ => cases e
    | tuple a =>
      cases dy with
      | tuple b =>
        obtain ⟨c, rfl⟩ := ite_ok e
        rcases ox with ox | ⟨_, _, ox⟩
        · rcases oy with oy | ⟨_, _, oy⟩
          · cases ox with
            | @tup p1 xs _ h1 r1 =>
              cases oy with
              | @tup p2 ys _ h2 r2 =>
                refine op_catA pins s σ H _ _ v u Q I rx ry ⟨p1, p2, xs, ys, rfl, rfl, sqT_mono hA h1, sqT_mono hA h2, by rw [r1.length, r2.length]; exact c, fun e => ?_, fun _ e => ?_, fun _ _ p hp => q _ _ (.tup hp (r1.append r2))⟩
                · subst e
                  cases r1
                  exact q _ _ (.old rfl (.tup h2 r2))
                · subst e
                  cases r2
                  refine q _ _ (.old rfl (.tup h1 ?_))
                  rw [List.append_nil]
                  exact r1
          · exact oy.elim
        · exact ox.elim
      | _ => cases e
    | _ => cases e
  | sub =>
    cases dx with
    | int a =>
      cases dy with
      | int b =>
        obtain rfl := ox.int
        obtain rfl := oy.int
        exact op_sub pins s σ H _ _ v u Q I rx ry ⟨a, b, rfl, rfl, qi _ (by cases e; rfl)⟩
      | _ => cases e
    | _ => cases e
  | mul =>
    cases dx with
    | int a =>
      cases dy with
      | int b =>
        obtain rfl := ox.int
        obtain rfl := oy.int
        obtain ⟨c, e⟩ := ite_ok e
        obtain ⟨t, rfl⟩ := rx
        obtain ⟨t', rfl⟩ := ry
        exact PyProof.Rows.mul_int ⟨.int _, H, I.tok _, ⟨_, rfl⟩, qi _ e.symm⟩ (mulOk_ok c)
      | _ => cases e
    | _ => cases e
  | fdiv =>
    cases dx with
    | int a =>
      cases dy with
      | int b =>
        obtain rfl := ox.int
        obtain rfl := oy.int
        obtain ⟨c, e⟩ := ite_ok e
        obtain ⟨t, rfl⟩ := rx
        obtain ⟨t', rfl⟩ := ry
        exact floordiv_int c.1 ⟨.int _, H, I.tok _, ⟨_, rfl⟩, qi _ e.symm⟩ (.inl (PyProof.noPylong_of_log2 c.2))
      | _ => cases e
    | _ => cases e
  | mod =>
    cases dx with
    | int a =>
      cases dy with
      | int b =>
        obtain rfl := ox.int
        obtain rfl := oy.int
        obtain ⟨c, e⟩ := ite_ok e
        exact op_modN pins s σ H _ _ v u Q I rx ry ⟨a, b, rfl, rfl, c, qi _ e.symm⟩
      | _ => cases e
    | _ => cases e
  | pow =>
    cases dx with
    | int a =>
      cases dy with
      | int b =>
        obtain rfl := ox.int
        obtain rfl := oy.int
        obtain ⟨c, e⟩ := ite_ok e
        exact op_pow pins s σ H _ _ v u Q I rx ry ⟨a, b, rfl, rfl, c, qi _ e.symm⟩
      | _ => cases e
    | _ => cases e
  | shl =>
    cases dx with
    | int a =>
      cases dy with
      | int b =>
        obtain rfl := ox.int
        obtain rfl := oy.int
        obtain ⟨c, e⟩ := ite_ok e
        exact op_shl pins s σ H _ _ v u Q I rx ry ⟨a, b, rfl, rfl, c, qi _ e.symm⟩
      | _ => cases e
    | _ => cases e

/-! ### comparisons -/
def rCm (K : PySem.W.Frag) (o : Cm) : R2 := fun x y H Q => ∃ A dx dy t, Same A H ∧ Opd K A H x dx ∧ Opd K A H y dy ∧ cmpv o dx dy = .ok t ∧ Q (.bl t) H
theorem op_cm (o : Cm) {k : Nat} (hr : Room k X.A) : OpR X (compareOp (cmr o)) (rCm X.K o) := by
  intro pins s σ H x y v u Q I rx ry h
  obtain ⟨A, dx, dy, t, hA, ox, oy, e, q⟩ := h
  have hu : X.A.units + 65 < cLine := by have := hr.un; omega
  have int2 : ∀ {f : Int → Int → Bool} {op : CmpOp}, OpR X (compareOp op) (rI0 fun i j => .bl (f i j)) → ∀ {i j : Int}, dx = .int i → dy = .int j → t = f i j → wpAny (model X.prog X.w) X.A (compareOp op v u) (EP X pins σ Q) X.xe s := fun {f op} r {i j} e1 e2 e3 => by
    subst e1 e2 e3
    obtain rfl := ox.int
    obtain rfl := oy.int
    exact r pins s σ H _ _ v u Q I rx ry ⟨i, j, rfl, rfl, q⟩
  cases o with
  | eq =>
    obtain ⟨⟨c1, c2⟩, rfl⟩ := ite_ok e
    exact op_eqD (by omega) pins s σ H _ _ v u Q I rx ry ⟨dx, dy, ox.dp hA, oy.dp hA, c1, c2, q⟩
  | ne =>
    obtain ⟨⟨c1, c2⟩, rfl⟩ := ite_ok e
    exact op_neD (by omega) pins s σ H _ _ v u Q I rx ry ⟨dx, dy, ox.dp hA, oy.dp hA, c1, c2, q⟩
  | lt =>
    have gen : (if W.alike dx dy = true ∧ isNone dx = false ∧ dx.depth ≤ 60 then R.ok (W.dataLt dx dy) else .st) = .ok t → wpAny (model X.prog X.w) X.A (compareOp .Lt v u) (EP X pins σ Q) X.xe s := fun e => by
      obtain ⟨⟨c1, c2, c3⟩, rfl⟩ := ite_ok e
      obtain ⟨as, r1⟩ := Dp.reads I dx x v (ox.dp hA) rx
      obtain ⟨bs, r2⟩ := Dp.reads I dy y u (oy.dp hA) ry
      refine PySem.W.rcLt_alike dx dy X.A s v u as bs r1 r2 c1 (fun z => ?_) (by omega) X.prog X.w X.xe _ ⟨.bl _, H, I, rfl, q⟩
      rw [z] at c2
      cases c2
    cases dx with
    | int a =>
      cases dy with
      | int b => exact int2 op_lt rfl rfl (by cases e; rfl)
      | _ => exact gen e
    | _ => exact gen e
  | le =>
    cases dx with
    | int a =>
      cases dy with
      | int b => exact int2 op_le rfl rfl (by cases e; rfl)
      | _ => cases e
    | _ => cases e
  | gt =>
    cases dx with
    | int a =>
      cases dy with
      | int b => exact int2 op_gt rfl rfl (by cases e; rfl)
      | _ => cases e
    | _ => cases e
  | ge =>
    cases dx with
    | int a =>
      cases dy with
      | int b => exact int2 op_ge rfl rfl (by cases e; rfl)
      | _ => cases e
    | _ => cases e
  | isin =>
    cases dy with
    | list ds =>
      obtain ⟨⟨c1, c2⟩, rfl⟩ := ite_ok e
      exact op_inD hu pins s σ H _ _ v u Q I rx ry ⟨dx, ds, ox.dp hA, oy.dp hA, c1, c2, q⟩
    | tuple ds =>
      obtain ⟨⟨c1, c2⟩, rfl⟩ := ite_ok e
      obtain ⟨as, r1⟩ := Dp.reads I dx x v (ox.dp hA) rx
      obtain ⟨bs, r2⟩ := Dp.reads I (.tuple ds) y u (oy.dp hA) ry
      exact SeqAt.in_tuple_reads r2 r1 (SeqAt.canLay_of_shaped c2) (SeqAt.canLay_of_shaped c1) (room_in_shaped c1 hu) ⟨.bl _, H, I, rfl, q⟩
    | _ => cases dx <;> cases e
  | notin =>
    cases dy with
    | list ds =>
      obtain ⟨⟨c1, c2⟩, rfl⟩ := ite_ok e
      exact op_notInD hu pins s σ H _ _ v u Q I rx ry ⟨dx, ds, ox.dp hA, oy.dp hA, c1, c2, q⟩
    | tuple ds =>
      obtain ⟨⟨c1, c2⟩, rfl⟩ := ite_ok e
      obtain ⟨as, r1⟩ := Dp.reads I dx x v (ox.dp hA) rx
      obtain ⟨bs, r2⟩ := Dp.reads I (.tuple ds) y u (oy.dp hA) ry
      exact SeqAt.notIn_tuple_reads r2 r1 (SeqAt.canLay_of_shaped c2) (SeqAt.canLay_of_shaped c1) (room_in_shaped c1 hu) ⟨.bl _, H, I, rfl, q⟩
    | _ => cases dx <;> cases e

/-! ### truth -/
theorem truV {A H : Hp} {x : V} {d : PyData} {t : Bool} (hA : Same A H) (o : Opd X.K A H x d) (e : truth d = .ok t) : TruV X.K x H t := by
  cases d with
  | none => obtain rfl := o.non; cases e; rfl
  | bool b => obtain rfl := o.bl; cases e; rfl
  | int i => obtain rfl := o.int; cases e; rfl
  | str z =>
    obtain rfl := o.str
    obtain ⟨c, e⟩ := ite_ok e
    subst e
    refine ⟨c, ?_⟩
    by_cases h : z.length = 0
    · rw [h]; rfl
    · have h1 : (z.length != 0) = true := by simpa using h
      have h2 : ((z.length : Int) != 0) = true := by simp; omega
      rw [h1, h2]
  | list ds =>
    obtain ⟨a, xs, rfl, h, r⟩ := o.lst hA
    cases e
    exact .inl ⟨xs, h, by cases r <;> rfl⟩
  | tuple ds =>
    obtain ⟨a, xs, rfl, h, r⟩ := o.tup hA
    cases e
    exact .inr (.inl ⟨xs, h, by cases r <;> rfl⟩)
  | dict _ => cases e
/-! ### a[i] -/
def rGet (K : PySem.W.Frag) : R2 := fun x y H Q => ∃ A dx dy dz, Same A H ∧ Opd K A H x dx ∧ Opd K A H y dy ∧ getItem dx dy = .ok dz ∧ ∀ v, Rep K A v dz → Q v H
theorem atI_rep {K : PySem.W.Frag} {A : Hp} {vs : List V} {ds : List PyData} {i : Int} {d : PyData} (r : RepAll K A vs ds) (e : L2.atI ds i = some d) : ∃ v, L2.atI vs i = some v ∧ Rep K A v d := by
  unfold L2.atI at e ⊢
  rw [r.length]
  cases h : ixN ds.length i with
  | none => rw [h] at e; cases e
  | some j =>
    rw [h] at e
    obtain ⟨v, h1, h2⟩ := r.get (show ds[j]? = some d from e)
    exact ⟨v, h1, h2⟩
theorem ix_get : IxR X (rGet X.K) := by
  intro value sl pins s σ H x y v u Q I rx ry h hs
  obtain ⟨A, dx, dy, dz, hA, ox, oy, e, q⟩ := h
  cases dx with
  | list ds =>
    cases dy with
    | int i =>
      obtain rfl := oy.int
      obtain ⟨a, xs, rfl, h, r⟩ := ox.lst hA
      obtain ⟨w, h1, h2⟩ := atI_rep r (of_ok e)
      exact ix_list value sl pins s σ H _ _ v u Q I rx ry ⟨a, xs, i, w, rfl, rfl, h, h1, q w h2⟩ hs
    | _ => cases e
  | tuple ds =>
    cases dy with
    | int i =>
      obtain rfl := oy.int
      obtain ⟨a, xs, rfl, h, r⟩ := ox.tup hA
      obtain ⟨w, h1, h2⟩ := atI_rep r (of_ok e)
      exact ix_tup value sl pins s σ H _ _ v u Q I rx ry ⟨a, xs, i, w, rfl, rfl, h, h1, q w h2⟩ hs
    | _ => cases e
  | _ => cases e
/-! ### a[lo:hi] -/
def rCut (K : PySem.W.Frag) : V → Option Int → Option Int → Hp → VK → Prop := fun x lo hi H Q => ∃ A dx dz, Same A H ∧ Opd K A H x dx ∧ slice dx lo hi = .ok dz ∧ ∀ v H', Res K A H v dz H' → Q v H'
theorem cut_rep {K : PySem.W.Frag} {A : Hp} {vs : List V} {ds : List PyData} {lo hi : Option Int} (r : RepAll K A vs ds) : RepAll K A (cutV vs lo hi) (cut ds lo hi) := by
  unfold cutV cut
  rw [r.length]
  exact (r.drop _).take _
theorem sl_cut : SlR X (rCut X.K) := by
  intro pins s σ H x v vl vu lo hi sl Q I rx hs pl pu h
  obtain ⟨A, dx, dz, hA, ox, e, q⟩ := h
  cases dx with
  | list ds =>
    obtain ⟨a, xs, rfl, h, r⟩ := ox.lst hA
    cases e
    exact sl_list pins s σ H _ v vl vu lo hi sl Q I rx hs pl pu ⟨a, xs, rfl, h, fun p hp => q _ _ (.lst hp (cut_rep r))⟩
  | tuple ds =>
    rcases ox with ox | ⟨_, _, ox⟩
    · cases ox with
      | @tup a xs _ h r =>
        cases e
        refine sl_tupA pins s σ H _ v vl vu lo hi sl Q I rx hs pl pu ⟨a, xs, rfl, sqT_mono hA h, fun c => ?_, fun _ p hp => q _ _ (.tup hp (cut_rep r))⟩
        have hc : cut ds lo hi = ds := by
          unfold cut
          rw [← r.length, c.1, c.2, r.length]
          simp
        rw [← hc] at r
        refine q _ _ (.old rfl (.tup h ?_))
        exact r
    · exact ox.elim
  | _ => cases e

/-! ### built-in functions -/
def rFn (K : PySem.W.Frag) (b : Fn) : List V → Hp → VK → Prop := fun xs H Q => ∃ A ds dz, Same A H ∧ OpdAll K A H xs ds ∧ applyFn b ds = .ok dz ∧ ∀ v, Rep K A v dz → Q v H
theorem opd1 {K : PySem.W.Frag} {A H : Hp} {vs : List V} {d : PyData} (h : OpdAll K A H vs [d]) : ∃ v, vs = [v] ∧ Opd K A H v d := by
  cases h with
  | cons h r => cases r; exact ⟨_, rfl, h⟩
theorem opd2 {K : PySem.W.Frag} {A H : Hp} {vs : List V} {d e : PyData} (h : OpdAll K A H vs [d, e]) : ∃ v w, vs = [v, w] ∧ Opd K A H v d ∧ Opd K A H w e := by
  cases h with
  | cons h r =>
    cases r with
    | cons h2 r => cases r; exact ⟨_, _, rfl, h, h2⟩
theorem int_vals {K : PySem.W.Frag} {A : Hp} : ∀ {ds : List PyData} {is : List Int} {vs : List V}, asInts ds = .ok is → RepAll K A vs ds → vs = is.map V.int
  | [], _, _, e, r => by
    cases e
    cases r
    rfl
  | d :: ds, is, vs, e, r => by
    cases d with
    | int i =>
      obtain ⟨js, e1, e2⟩ := bind_ok e
      cases e2
      cases r with
      | cons h r =>
        cases h
        rw [int_vals e1 r]
        rfl
    | _ => cases e
theorem bool_vals {K : PySem.W.Frag} {A : Hp} : ∀ {ds : List PyData} {is : List Bool} {vs : List V}, asBools ds = .ok is → RepAll K A vs ds → vs = is.map V.bl
  | [], _, _, e, r => by
    cases e
    cases r
    rfl
  | d :: ds, is, vs, e, r => by
    cases d with
    | bool i =>
      obtain ⟨js, e1, e2⟩ := bind_ok e
      cases e2
      cases r with
      | cons h r =>
        cases h
        rw [bool_vals e1 r]
        rfl
    | _ => cases e
/-! min, max of data -/
theorem argBest_le (bt : Nat → Nat → Bool) : ∀ k, argBest bt k ≤ k
  | 0 => Nat.le_refl _
  | k + 1 => by
    show (if bt (k + 1) (argBest bt k) then k + 1 else argBest bt k) ≤ k + 1
    split
    · exact Nat.le_refl _
    · exact Nat.le_succ_of_le (argBest_le bt k)
theorem best_at (lt : PyData → PyData → Bool) (x : PyData) : ∀ (k : Nat) (xs : List PyData), k ≤ xs.length → (x :: xs).getD (argBest (fun i j => lt ((x :: xs).getD i .none) ((x :: xs).getD j .none)) k) .none = (xs.take k).foldl (fun b y => if lt y b = true then y else b) x
  | 0, xs, _ => rfl
  | k + 1, xs, h => by
    have ih := best_at lt x k xs (Nat.le_of_succ_le h)
    have hk : xs[k]? = some xs[k] := List.getElem?_eq_getElem h
    have ek : (x :: xs).getD (k + 1) .none = xs[k] := by
      rw [List.getD_cons_succ, List.getD_eq_getElem?_getD, hk]
      rfl
    rw [List.take_add_one, hk, List.foldl_append, ← ih]
    show (x :: xs).getD (if lt ((x :: xs).getD (k + 1) .none) _ then k + 1 else _) .none = if lt xs[k] _ = true then xs[k] else _
    rw [ek]
    split
    · exact ek
    · rfl
theorem cmp_best {A : Hp} {pins : List (Addr × Obj)} {σ : L2.St} {H : Hp} {s : Shared} {a : Addr} {vs : List V} {x : PyData} {xs : List PyData} {its : List Value} {lt : PyData → PyData → Bool} (rr : RepAll X.K A vs (x :: xs)) (rv : Vals vs its) {u : Value} (h : its.toArray[argBest (fun i j => lt ((x :: xs).getD i .none) ((x :: xs).getD j .none)) (its.toArray.size - 1)]? = some u) :
    ∃ v, RelV v u ∧ Rep X.K A v (xs.foldl (fun b y => if lt y b = true then y else b) x) := by
  have h1 := rr.length
  have h2 := rv.length
  have h3 : its.toArray.size - 1 = xs.length := by
    rw [List.size_toArray, ← h2, h1]
    rfl
  rw [h3] at h
  have h4 := best_at lt x xs.length xs (Nat.le_refl _)
  rw [List.take_length] at h4
  rw [← h4]
  generalize hi : argBest (fun i j => lt ((x :: xs).getD i .none) ((x :: xs).getD j .none)) xs.length = i at h
  have hle : i ≤ xs.length := by rw [← hi]; exact argBest_le _ _
  have hx : (x :: xs)[i]? = some ((x :: xs).getD i .none) := by
    rw [List.getD_eq_getElem?_getD, List.getElem?_eq_getElem (show i < (x :: xs).length by simp; omega)]
    rfl
  obtain ⟨v, g1, g2⟩ := rr.get hx
  obtain ⟨u', g3, g4⟩ := rv.get g1
  have h : its[i]? = some u := by simpa using h
  rw [h] at g3
  cases g3
  exact ⟨v, g4, g2⟩
theorem item_reads {A : Hp} {pins : List (Addr × Obj)} {σ : L2.St} {H : Hp} {s : Shared} {vs : List V} {ds : List PyData} {its : List Value} (I : Inv X pins σ H s) (hA : Same A H) (rr : RepAll X.K A vs ds) (rv : Vals vs its) {i : Nat} {u : Value} (h : its.toArray[i]? = some u) : ds.getD i .none ∈ ds ∧ ∃ as, Reads s.heap u (ds.getD i .none) as := by
  have h : its[i]? = some u := by simpa using h
  have hl := (List.getElem?_eq_some_iff.mp h).1
  have h1 := rr.length
  have h2 := rv.length
  have hx : ds[i]? = some (ds.getD i .none) := by
    rw [List.getD_eq_getElem?_getD, List.getElem?_eq_getElem (show i < ds.length by omega)]
    rfl
  obtain ⟨v, g1, g2⟩ := rr.get hx
  obtain ⟨u', g3, g4⟩ := rv.get g1
  rw [h] at g3
  cases g3
  exact ⟨List.mem_of_getElem? hx, Dp.reads I _ _ _ (g2.mono hA).dp g4⟩
theorem cmpB_ok {ds : List PyData} (h : cmpB ds = true) : ∀ d ∈ ds, d ≠ .none ∧ d.depth ≤ 60 ∧ ∀ e ∈ ds, W.alike d e = true := fun d hd => by
  unfold cmpB at h
  simp only [Bool.and_eq_true] at h
  obtain ⟨⟨h1, h2⟩, h3⟩ := h
  refine ⟨fun e => ?_, of_decide_eq_true (List.all_eq_true.mp h3 d hd), fun e he => List.all_eq_true.mp (List.all_eq_true.mp h2 d hd) e he⟩
  subst e
  have := List.all_eq_true.mp h1 _ hd
  cases this
def rBest (K : PySem.W.Frag) (f : List PyData → R PyData) : List V → Hp → VK → Prop := fun vs H Q => ∃ A ds dz, Same A H ∧ OpdAll K A H vs [.list ds] ∧ f ds = .ok dz ∧ ∀ v, Rep K A v dz → Q v H
theorem call_min1 {k : Nat} (hr : Room k X.A) (hc : X.calm = true) : CallR X (.builtin "min") (rBest X.K minV) := by
  intro pins s σ H xs us Q I rs h
  obtain ⟨A, ds, dz, hA, o, e, q⟩ := h
  obtain ⟨v, rfl, o1⟩ := opd1 o
  obtain ⟨a, vs, rfl, hq, rr⟩ := o1.lst hA
  obtain ⟨its, rv, hl, _⟩ := I.list hq
  rw [Vals.ref1 rs]
  by_cases hb : cmpB ds = true
  · have e : bestD (fun y b => W.dataLt y b) ds = .ok dz := (if_pos hb).symm.trans e
    cases ds with
    | nil => cases e
    | cons x xs =>
      cases e
      have hun := hr.un
      have h1 := rr.length
      have h2 := rv.length
      refine min_callD (I.ok.hd hc) hl.isList (by rw [List.size_toArray, ← h2, h1]; exact Nat.succ_pos _) (bt := fun i j => W.dataLt ((x :: xs).getD i .none) ((x :: xs).getD j .none)) (fun i j y z s' Q' E keep hy hz hQ => ?_) fun y g tk hy keep => ?_
      · obtain ⟨m1, as, r1⟩ := item_reads I hA rr rv hy
        obtain ⟨m2, bs, r2⟩ := item_reads I hA rr rv hz
        obtain ⟨c1, c2, c3⟩ := cmpB_ok hb _ m1
        exact PySem.W.rcLt_alike _ _ _ s' y z as bs (PyProof.Rows.Reads.keeps keep r1) (PyProof.Rows.Reads.keeps keep r2) (c3 _ m2) c1 (by show X.A.units + 1 + _ < _; omega) X.prog X.w E Q' hQ
      · obtain ⟨v, g1, g2⟩ := cmp_best (X := X) (pins := pins) (σ := σ) (H := H) (s := s) (a := a) (lt := fun y b => W.dataLt y b) rr rv hy
        exact ⟨v, H, I.kept keep, g1, q v g2⟩
  · have e := (if_neg hb).symm.trans e
    cases e
theorem call_max1 {k : Nat} (hr : Room k X.A) (hc : X.calm = true) : CallR X (.builtin "max") (rBest X.K maxV) := by
  intro pins s σ H xs us Q I rs h
  obtain ⟨A, ds, dz, hA, o, e, q⟩ := h
  obtain ⟨v, rfl, o1⟩ := opd1 o
  obtain ⟨a, vs, rfl, hq, rr⟩ := o1.lst hA
  obtain ⟨its, rv, hl, _⟩ := I.list hq
  rw [Vals.ref1 rs]
  by_cases hb : cmpB ds = true
  · have e : bestD (fun y b => W.dataLt b y) ds = .ok dz := (if_pos hb).symm.trans e
    cases ds with
    | nil => cases e
    | cons x xs =>
      cases e
      have hun := hr.un
      have h1 := rr.length
      have h2 := rv.length
      refine max_callD (I.ok.hd hc) hl.isList (by rw [List.size_toArray, ← h2, h1]; exact Nat.succ_pos _) (bt := fun i j => W.dataLt ((x :: xs).getD j .none) ((x :: xs).getD i .none)) (fun i j y z s' Q' E keep hy hz hQ => ?_) fun y g tk hy keep => ?_
      · obtain ⟨m1, as, r1⟩ := item_reads I hA rr rv hy
        obtain ⟨m2, bs, r2⟩ := item_reads I hA rr rv hz
        obtain ⟨c1, c2, c3⟩ := cmpB_ok hb _ m1
        exact PySem.W.rcGt_alike _ _ _ s' y z as bs (PyProof.Rows.Reads.keeps keep r1) (PyProof.Rows.Reads.keeps keep r2) (c3 _ m2) c1 (by show X.A.units + 1 + _ < _; omega) X.prog X.w E Q' hQ
      · obtain ⟨v, g1, g2⟩ := cmp_best (X := X) (pins := pins) (σ := σ) (H := H) (s := s) (a := a) (lt := fun y b => W.dataLt b y) rr rv hy
        exact ⟨v, H, I.kept keep, g1, q v g2⟩
  · have e := (if_neg hb).symm.trans e
    cases e
/-- the built-in at hand -/
def fnV : Fn → Value
  | .len => .builtin "len" | .abs => .builtin "abs" | .int => .type "int" | .min2 => .builtin "min" | .max2 => .builtin "max" | .min1 => .builtin "min" | .max1 => .builtin "max"
  | .sum => .builtin "sum" | .all => .builtin "all" | .any => .builtin "any" | .sorted => .builtin "sorted" | .toL => .type "list" | .toT => .type "tuple"
theorem call_fn {k : Nat} (hr : Room k X.A) (hc : X.calm = true) (b : Fn) : CallR X (fnV b) (rFn X.K b) := by
  intro pins s σ H xs us Q I rs h
  obtain ⟨A, ds, dz, hA, o, e, q⟩ := h
  have qi : ∀ i : Int, dz = .int i → Q (.int i) H := fun i e => q _ (by subst e; exact .int i)
  have qb : ∀ i : Bool, dz = .bool i → Q (.bl i) H := fun i e => q _ (by subst e; exact .bl i)
  match ds, e, o with
  | [], e, _ => cases e
  | _ :: _ :: _ :: _, e, _ => cases e
  | [d], e, o =>
    obtain ⟨v, rfl, o1⟩ := opd1 o
    have e : fn1 b d = .ok dz := e
    cases b with
    | len =>
      cases d with
      | list ds =>
        obtain ⟨a, vs, rfl, h, r⟩ := o1.lst hA
        exact call_len pins s σ H _ us Q I rs ⟨_, _, rfl, .inl ⟨vs, h, rfl⟩, by rw [r.length]; exact qi _ (by cases e; rfl)⟩
      | tuple ds =>
        obtain ⟨a, vs, rfl, h, r⟩ := o1.tup hA
        exact call_len pins s σ H _ us Q I rs ⟨_, _, rfl, .inr ⟨vs, h, rfl⟩, by rw [r.length]; exact qi _ (by cases e; rfl)⟩
      | str z =>
        obtain rfl := o1.str
        obtain ⟨c, e⟩ := ite_ok e
        exact call_len pins s σ H _ us Q I rs ⟨_, _, rfl, ⟨c, rfl⟩, qi _ e.symm⟩
      | _ => cases e
    | abs =>
      cases d with
      | int i =>
        obtain rfl := o1.int
        exact call_abs pins s σ H _ us Q I rs ⟨i, rfl, qi _ (by cases e; rfl)⟩
      | _ => cases e
    | int =>
      cases d with
      | int i =>
        obtain rfl := o1.int
        exact call_int1 pins s σ H _ us Q I rs (.inl ⟨i, rfl, qi _ (by cases e; rfl)⟩)
      | bool i =>
        obtain rfl := o1.bl
        exact call_int1 pins s σ H _ us Q I rs (.inr ⟨i, rfl, qi _ (by cases e; rfl)⟩)
      | _ => cases e
    | sum =>
      cases d with
      | list ds =>
        obtain ⟨a, vs, rfl, h, r⟩ := o1.lst hA
        obtain ⟨is, e1, e2⟩ := bind_ok e
        rw [int_vals e1 r] at h
        exact cr_sum hc pins s σ H _ us Q I rs ⟨a, is, rfl, h, qi _ (by cases e2; rfl)⟩
      | _ => cases e
    | all =>
      cases d with
      | list ds =>
        obtain ⟨a, vs, rfl, h, r⟩ := o1.lst hA
        obtain ⟨is, e1, e2⟩ := bind_ok e
        rw [bool_vals e1 r] at h
        exact cr_all hc pins s σ H _ us Q I rs ⟨a, is, rfl, h, qb _ (by cases e2; rfl)⟩
      | _ => cases e
    | any =>
      cases d with
      | list ds =>
        obtain ⟨a, vs, rfl, h, r⟩ := o1.lst hA
        obtain ⟨is, e1, e2⟩ := bind_ok e
        rw [bool_vals e1 r] at h
        exact cr_any hc pins s σ H _ us Q I rs ⟨a, is, rfl, h, qb _ (by cases e2; rfl)⟩
      | _ => cases e
    | min1 =>
      cases d with
      | list ds => exact call_min1 hr hc pins s σ H _ us Q I rs ⟨A, ds, dz, hA, o, e, q⟩
      | _ => cases e
    | max1 =>
      cases d with
      | list ds => exact call_max1 hr hc pins s σ H _ us Q I rs ⟨A, ds, dz, hA, o, e, q⟩
      | _ => cases e
    | _ => cases e
  | [d, d2], e, o =>
    obtain ⟨v, w, rfl, o1, o2⟩ := opd2 o
    have e : fn2 b d d2 = .ok dz := e
    cases b with
    | min2 =>
      cases d with
      | int i =>
        cases d2 with
        | int j =>
          obtain rfl := o1.int
          obtain rfl := o2.int
          exact call_min2 hc pins s σ H _ us Q I rs ⟨i, j, rfl, qi _ (by cases e; rfl)⟩
        | _ => cases e
      | _ => cases e
    | max2 =>
      cases d with
      | int i =>
        cases d2 with
        | int j =>
          obtain rfl := o1.int
          obtain rfl := o2.int
          exact call_max2 hc pins s σ H _ us Q I rs ⟨i, j, rfl, qi _ (by cases e; rfl)⟩
        | _ => cases e
      | _ => cases e
    | _ => cases e
/-! ### isinstance -/
def tyS : Ty → String
  | .int => "int" | .bool => "bool" | .str => "str" | .tuple => "tuple" | .list => "list" | .dict => "dict"
def tyD : PyData → String
  | .none => "NoneType" | .bool _ => "bool" | .int _ => "int" | .str _ => "str" | .list _ => "list" | .tuple _ => "tuple" | .dict _ => "dict"
theorem sqL_ty {K : PySem.W.Frag} {H : Hp} {a : Addr} {xs : List V} (h : SqL K H a xs) : TyX K H (.ref a) (.type "list") := by
  rcases h with (h | ⟨o, h⟩) | ⟨o, _, _, h, c, _⟩
  · exact .base (.lst h)
  · exact .base (.frz h)
  · exact .kList h c
theorem sqT_ty {K : PySem.W.Frag} {H : Hp} {a : Addr} {xs : List V} (h : SqT K H a xs) : TyX K H (.ref a) (.type "tuple") := by
  rcases h with (h | ⟨o, h⟩) | ⟨o, _, _, h, c, _⟩
  · exact .base (.tup h)
  · exact .fTuple h
  · exact .kTuple h c
theorem opd_ty {K : PySem.W.Frag} {A H : Hp} {v : V} {d : PyData} (hA : Same A H) (o : Opd K A H v d) : TyX K H v (.type (tyD d)) := by
  cases d with
  | none => obtain rfl := o.non; exact .base .non
  | bool b => obtain rfl := o.bl; exact .base (.bl b)
  | int b => obtain rfl := o.int; exact .base (.int b)
  | str b => obtain rfl := o.str; exact .base (.str b)
  | list ds =>
    obtain ⟨a, xs, rfl, h, _⟩ := o.lst hA
    exact sqL_ty h
  | tuple ds =>
    obtain ⟨a, xs, rfl, h, _⟩ := o.tup hA
    exact sqT_ty h
  | dict _ => exact o.dict.elim
theorem kit_all : ∀ a b : Ty, kitB (tyS a) (tyS b) = some (decide (a = b) || (decide (a = .bool) && decide (b = .int))) := by
  intro a b
  cases a <;> cases b <;> decide +kernel
theorem kit_none : ∀ b : Ty, kitB "NoneType" (tyS b) = some false := by
  intro b
  cases b <;> decide +kernel
theorem isTy_kit (d : PyData) (t : Ty) : kitB (tyD d) (tyS t) = some (isTy d t) := by
  cases d with
  | none => rw [show tyD .none = "NoneType" from rfl, kit_none]; cases t <;> rfl
  | bool b => rw [show tyD (.bool b) = tyS .bool from rfl, kit_all]; cases t <;> rfl
  | int b => rw [show tyD (.int b) = tyS .int from rfl, kit_all]; cases t <;> rfl
  | str b => rw [show tyD (.str b) = tyS .str from rfl, kit_all]; cases t <;> rfl
  | list b => rw [show tyD (.list b) = tyS .list from rfl, kit_all]; cases t <;> rfl
  | tuple b => rw [show tyD (.tuple b) = tyS .tuple from rfl, kit_all]; cases t <;> rfl
  | dict b => rw [show tyD (.dict b) = tyS .dict from rfl, kit_all]; cases t <;> rfl
theorem isTys_kit {K : PySem.W.Frag} (d : PyData) : ∀ ts : List Ty, PySem.W.kitAny K (.type (tyD d)) (ts.map fun t => .type (tyS t)) = some (ts.any fun t => isTy d t)
  | [] => kitAny_nil
  | t :: ts => by
    refine kitAny_cons (kit_ty (isTy_kit d t)) (fun e => ?_) fun e => ?_
    · rw [isTys_kit d ts, List.any_cons, e, Bool.false_or]
    · rw [List.any_cons, e, Bool.true_or]
end
end Fh

set_option maxHeartbeats 1000000
/-! Fh: sorted(..) of data. -/
namespace Fh
open PySem PySem.Spec PyProof.Rows L2
section
variable {α : Type} {le : α → α → Bool}
def insG (le : α → α → Bool) (x : α) : List α → List α
  | [] => [x]
  | y :: ys => if le x y = true then x :: y :: ys else y :: insG le x ys
def isortG (le : α → α → Bool) : List α → List α
  | [] => []
  | x :: xs => insG le x (isortG le xs)
theorem insG_mem {x z : α} : ∀ {l : List α}, z ∈ insG le x l → z = x ∨ z ∈ l
  | [], h => .inl (List.mem_singleton.mp h)
  | y :: ys, h => by
    unfold insG at h
    split at h
    · exact (List.mem_cons.mp h).imp id id
    · rcases List.mem_cons.mp h with h | h
      · exact .inr (by rw [h]; exact List.mem_cons_self)
      · exact (insG_mem h).imp id (List.mem_cons_of_mem _)
theorem insG_pw (h : W.TotalLe le) {x : α} : ∀ {l : List α}, l.Pairwise (fun a b => le a b = true) → (insG le x l).Pairwise (fun a b => le a b = true)
  | [], _ => List.pairwise_singleton _ _
  | y :: ys, p => by
    unfold insG
    split
    · rename_i hxy
      refine List.pairwise_cons.mpr ⟨fun z hz => ?_, p⟩
      rcases List.mem_cons.mp hz with rfl | hz
      · exact hxy
      · exact h.trans _ _ _ hxy ((List.pairwise_cons.mp p).1 z hz)
    · rename_i hxy
      have hyx : le y x = true := (h.total x y).elim (fun z => absurd z hxy) id
      refine List.pairwise_cons.mpr ⟨fun z hz => ?_, insG_pw h (List.pairwise_cons.mp p).2⟩
      rcases insG_mem hz with rfl | hz
      · exact hyx
      · exact (List.pairwise_cons.mp p).1 z hz
theorem isortG_pw (h : W.TotalLe le) : ∀ l : List α, (isortG le l).Pairwise (fun a b => le a b = true)
  | [] => .nil
  | x :: xs => insG_pw h (isortG_pw h xs)
theorem insG_filter (h : W.TotalLe le) (c x : α) : ∀ l : List α, (insG le x l).filter (W.sameRank le c) = (x :: l).filter (W.sameRank le c)
  | [] => rfl
  | y :: ys => by
    unfold insG
    split
    · rfl
    · rename_i hxy
      rw [List.filter_cons, insG_filter h c x ys, List.filter_cons, List.filter_cons, List.filter_cons]
      by_cases hx : W.sameRank le c x = true
      · have hy : W.sameRank le c y = false := by
          cases e : W.sameRank le c y with
          | false => rfl
          | true =>
            unfold W.sameRank at hx e
            rw [Bool.and_eq_true] at hx e
            exact absurd (h.trans _ _ _ hx.2 e.1) hxy
        simp [hx, hy]
      · have hx : W.sameRank le c x = false := by
          cases e : W.sameRank le c x <;> simp_all
        simp [hx]
theorem isortG_filter (h : W.TotalLe le) (c : α) : ∀ l : List α, (isortG le l).filter (W.sameRank le c) = l.filter (W.sameRank le c)
  | [] => rfl
  | x :: xs => by
    show (insG le x (isortG le xs)).filter _ = _
    rw [insG_filter h, List.filter_cons, isortG_filter h c xs, ← List.filter_cons]
theorem isortG_eq (h : W.TotalLe le) (l : List α) : isortG le l = l.mergeSort le := W.sort_unique h (isortG_pw h l) fun c => isortG_filter h c l
end
theorem ins_eq (x : PV) : ∀ l : List PV, ins x l = insG leD x l
  | [] => rfl
  | y :: ys => by
    unfold ins insG
    rw [ins_eq x ys]
theorem isort_eq : ∀ l : List PV, isort l = l.mergeSort (W.dataLe false id)
  | l => by
    have e : ∀ l : List PV, isort l = isortG leD l := by
      intro l
      induction l with
      | nil => rfl
      | cons x xs ih =>
        show ins x (isort xs) = insG leD x (isortG leD xs)
        rw [ih, ins_eq]
    rw [e l]
    exact isortG_eq (le := W.dataLe false id) (W.sortLe_total _ _ _) l
section
variable {X : Cx}
def rSrt (K : PySem.W.Frag) : List V → Hp → VK → Prop := fun vs H Q => ∃ A d ys, Same A H ∧ OpdAll K A H vs [d] ∧ srtV d = .ok (.list ys) ∧ ∀ p ws, H p = none → RepAll K A ws ys → Q (.ref p) (upd H p (.lst ws))
theorem repPairs {K : PySem.W.Frag} {A : Hp} : ∀ {vs : List V} {ds : List PyData}, RepAll K A vs ds → ∀ p ∈ vs.zip ds, Rep K A p.1 p.2
  | _, _, .nil, p, h => by cases h
  | _, _, .cons h r, p, hp => by
    rw [List.zip_cons_cons] at hp
    rcases List.mem_cons.mp hp with rfl | hp
    · exact h
    · exact repPairs r p hp
theorem repOf {K : PySem.W.Frag} {A : Hp} : ∀ {ps : List (V × PyData)}, (∀ p ∈ ps, Rep K A p.1 p.2) → RepAll K A (ps.map Prod.fst) (ps.map Prod.snd)
  | [], _ => .nil
  | p :: ps, h => .cons (h p List.mem_cons_self) (repOf fun q hq => h q (List.mem_cons_of_mem _ hq))
theorem valsOf : ∀ {ps : List (V × PyData)} {us : List Value}, W.EachIs (fun u (p : V × PyData) => RelV p.1 u) us ps → Vals (ps.map Prod.fst) us
  | _, _, .nil => .nil
  | _, _, .cons h t => .cons h (valsOf t)
theorem eachRel : ∀ {vs : List V} {ds : List PyData} {us : List Value}, vs.length = ds.length → Vals vs us → W.EachIs (fun u (p : V × PyData) => RelV p.1 u) us (vs.zip ds)
  | [], [], _, _, .nil => .nil
  | v :: vs, d :: ds, _, h, .cons r t => .cons r (eachRel (Nat.succ.inj h) t)
  | [], _ :: _, _, h, _ => by cases h
  | _ :: _, [], _, h, _ => by cases h
theorem eachRd {K : PySem.W.Frag} {A H : Hp} {pins : List (Addr × Obj)} {σ : L2.St} {s : Shared} (I : Inv X pins σ H s) (hA : Same A H) : ∀ {vs : List V} {ds : List PyData} {us : List Value}, RepAll X.K A vs ds → Vals vs us → W.EachIs (fun u (p : V × PyData) => ∃ as, Reads s.heap u p.2 as) us (vs.zip ds)
  | _, _, _, .nil, .nil => .nil
  | _, _, _, .cons h r, .cons q t => .cons (Dp.reads I _ _ _ (h.mono hA).dp q) (eachRd (K := K) (A := A) I hA r t)
theorem tupNE_ok {d : PyData} (h : tupNE d = true) : ∃ x r, d = .tuple (x :: r) := by
  unfold tupNE at h
  split at h
  · exact ⟨_, _, rfl⟩
  · cases h
theorem call_srt {k : Nat} (hr : Room k X.A) : CallR X (.builtin "sorted") (rSrt X.K) := by
  intro pins s σ H xs us Q I rs h
  obtain ⟨A, d, ys, hA, o, e, q⟩ := h
  obtain ⟨v, rfl, o1⟩ := opd1 o
  cases d with
  | list ds =>
    obtain ⟨⟨hb, hz⟩, e⟩ := ite_ok (show (if sortB ds = true ∧ ds.length ≤ sizeLine then R.ok (PyData.list (isort ds)) else .st) = .ok (.list ys) from e)
    cases e
    obtain ⟨a, vs, rfl, hq, rr⟩ := o1.lst hA
    obtain ⟨its, rv, hl, _⟩ := I.list hq
    rw [Vals.ref1 rs]
    unfold sortB at hb
    simp only [Bool.and_eq_true, Bool.or_eq_true] at hb
    obtain ⟨⟨hk, hal⟩, hdp⟩ := hb
    have hlen := rr.length
    have hsnd : (vs.zip ds).map Prod.snd = ds := by
      rw [List.map_snd_zip]
      omega
    have hun := hr.un
    refine W.sorted_data (bs := vs.zip ds) (enc := Prod.snd) (R := fun u (p : V × PyData) => RelV p.1 u) hl.isList (eachRel hlen rv) (eachRd (K := X.K) I hA rr rv) (by
        rw [hsnd]
        exact fun d hd d' hd' => List.all_eq_true.mp (List.all_eq_true.mp hal d hd) d' hd') (by
        rw [hsnd]
        rcases hk with hk | hk
        · exact .inl fun d hd => tupNE_ok (List.all_eq_true.mp hk d hd)
        · refine .inr fun d hd => ?_
          have := List.all_eq_true.mp hk d hd
          cases d with
          | none => exact absurd this (by decide)
          | tuple _ => exact absurd this (by simp [notTN])
          | _ => exact ⟨by simp, by simp⟩) (by rw [List.length_zip]; omega) (fun b hb => ?_) fun out ho eo => ?_
    · have hb2 : b.2 ∈ ds := by rw [← hsnd]; exact List.mem_map_of_mem hb
      have := of_decide_eq_true (List.all_eq_true.mp hdp b.2 hb2)
      omega
    · obtain ⟨ep, he'⟩ := PyProof.Rows.sortedAll_at s.heap its (List.toArray out)
      have hms : ((vs.zip ds).mergeSort (W.dataLe false Prod.snd)).map Prod.snd = isort ds := by
        rw [isort_eq]
        exact (W.sort_maps (r := W.dataLe false Prod.snd) (s := W.dataLe false id) Prod.snd (l := vs.zip ds) (fun _ _ _ _ => rfl)).trans (by rw [hsnd])
      have rp : RepAll X.K A (((vs.zip ds).mergeSort (W.dataLe false Prod.snd)).map Prod.fst) (isort ds) := by
        rw [← hms]
        exact repOf fun p hp => repPairs rr p ((List.mergeSort_perm _ _).mem_iff.mp hp)
      have vo := valsOf eo
      have hol : (((vs.zip ds).mergeSort (W.dataLe false Prod.snd)).map Prod.fst).length ≤ sizeLine := by
        rw [vo.length, ho, List.length_zip]; omega
      exact ⟨.ref _, upd H (s.heap.objs.size + 1) (.lst (((vs.zip ds).mergeSort (W.dataLe false Prod.snd)).map Prod.fst)), I.laid (t' := s.toks) (fun _ _ => PyProof.Rows.sortedAll_old) (Nat.le_succ _) ⟨hol, out, ep, vo, he'⟩, rfl, q _ _ (I.hok.fresh (Nat.le_succ _)) rp⟩
  | _ => cases e
end
end Fh

set_option maxHeartbeats 1000000
/-! Fh: an expression of the text does what the evaluator says. -/
namespace Fh
open PySem PySem.Spec PyProof.Rows L2
/-! ### the text held against the small syntax -/
structure Ck where
  N : List Str
  fn : Nat → Option Str
  gl : Str → PyData → Bool
def vis (sc : Scope) (x : Str) : Bool := match sc.names.lookup x with
  | some .local => true
  | some .cell => true
  | some .free => true
  | _ => false
def glb (sc : Scope) (x : Str) : Bool := decide (sc.names.lookup x = some .globalImplicit)
def okN (x : Str) : Bool := !(x == ("__debug__" : Str)) && !(x == ("__classdict__" : Str)) && !(x == ("__name__" : Str))
def okX : Expr → Bool
  | .Starred .. => false
  | .Set .. => false
  | .Slice .. => false
  | _ => true
def fnS : Fn → Str
  | .len => "len" | .abs => "abs" | .int => "int" | .min2 => "min" | .max2 => "max" | .min1 => "min" | .max1 => "max" | .sum => "sum" | .all => "all" | .any => "any" | .sorted => "sorted" | .toL => "list" | .toT => "tuple"
def constOf : Const → PyData → Bool
  | .none, .none => true
  | .bool b, .bool c => b == c
  | .int i, .int j => decide (i = j)
  | .str x, .str y => decide (x = y)
  | _, _ => false
def isTys : List Ty → List Expr → Scope → Bool
  | [], [], _ => true
  | t :: ts, e :: es, sc => (match e with
    | .Name y _ => decide (y = (tyS t : Str)) && glb sc y && okN y
    | _ => false) && isTys ts es sc
  | _, _, _ => false
mutual
def tnames : Tg → List Nat
  | .v i => [i]
  | .t ts => tsnames ts
def tsnames : Tgs → List Nat
  | .nil => []
  | .cons t ts => tnames t ++ tsnames ts
end
mutual
def chkG (N : List Str) (sc : Scope) (fb : Str → Bool) : Tg → Expr → Bool
  | .v i, e => match e with
    | .Name x _ => decide (N[i]? = some x) && (decide (sc.names.lookup x = some .local) || (decide (sc.names.lookup x = some .cell) && fb x))
    | _ => false
  | .t ts, e => match e with
    | .Tuple es _ _ => chkGs N sc fb ts es
    | _ => false
def chkGs (N : List Str) (sc : Scope) (fb : Str → Bool) : Tgs → List Expr → Bool
  | .nil, es => match es with
    | [] => true
    | _ => false
  | .cons t ts, es => match es with
    | e :: es => okX e && chkG N sc fb t e && chkGs N sc fb ts es
    | _ => false
end
def isTup : Expr → Bool
  | .Tuple .. => true
  | _ => false
def callOf (b : Str) (sc : Scope) (e : Expr) : Option (List Expr) := match e with
  | .Call (.Name y _) (g :: gs) [] _ => if (decide (y = b) && glb sc y) = true then some (g :: gs) else none
  | _ => none
theorem callOf_ok {b : Str} {sc : Scope} {e : Expr} {l : List Expr} (h : callOf b sc e = some l) : ∃ p g gs pos, e = .Call (.Name b p) (g :: gs) [] pos ∧ l = g :: gs ∧ glb sc b = true := by
  unfold callOf at h
  split at h
  · rename_i y p g gs pos
    split at h
    · rename_i c
      simp only [Bool.and_eq_true, decide_eq_true_eq] at c
      obtain ⟨rfl, c⟩ := c
      cases h
      exact ⟨p, g, gs, pos, rfl, rfl, c⟩
    · cases h
  · cases h
def srcOf (k : ItK) (sc : Scope) (e : Expr) : Option (List Expr) := match k with
  | .seq => some [e]
  | .rng => callOf "range" sc e
  | .zip => callOf "zip" sc e
  | .enm => callOf "enumerate" sc e
  | .rgd => callOf "range" sc e
def tgFor (k : ItK) (tg : Expr) : Bool := match k with
  | .zip => isTup tg
  | .enm => isTup tg
  | _ => true
def plainK : ItK → Bool
  | .seq => true
  | .rng => true
  | _ => false
mutual
def chk (C : Ck) (sc : Scope) : Ex → Expr → Bool
  | .v i, e => match e with
    | .Name x _ => decide (C.N[i]? = some x) && vis sc x && okN x
    | _ => false
  | .c d, e => match e with
    | .Constant c _ _ => constOf c d
    | _ => false
  | .g x d, e => match e with
    | .Name y _ => decide (x = y) && glb sc x && okN x && C.gl x d
    | _ => false
  | .bin o a b, e => match e with
    | .BinOp f p g _ => decide (p = opr o) && chk C sc a f && chk C sc b g
    | _ => false
  | .neg a, e => match e with
    | .UnaryOp .USub f _ => chk C sc a f
    | _ => false
  | .nt a, e => match e with
    | .UnaryOp .Not f _ => chk C sc a f
    | _ => false
  | .bop n a b, e => match e with
    | .BoolOp op (f :: g :: es) pos => decide (op = if n = true then .And else .Or) && chk C sc a f && (match es with
      | [] => chk C sc b g
      | _ => chk C sc b (.BoolOp op (g :: es) pos))
    | _ => false
  | .cmp o a b, e => match e with
    | .Compare f [p] [g] _ => decide (p = cmr o) && chk C sc a f && chk C sc b g && okX g
    | _ => false
  | .chn a o b q c, e => match e with
    | .Compare f [p1, p2] [g, h] _ => decide (p1 = cmr o) && decide (p2 = cmr q) && chk C sc a f && chk C sc b g && chk C sc c h && okX g && okX h
    | _ => false
  | .isn n a, e => match e with
    | .Compare f [p] [.Constant .none _ _] _ => decide (p = if n = true then .IsNot else .Is) && chk C sc a f
    | _ => false
  | .ist n a b, e => match e with
    | .Compare f [p] [.Constant (.bool c) _ _] _ => decide (p = if n = true then .IsNot else .Is) && chk C sc a f && (b == c)
    | _ => false
  | .ite c a b, e => match e with
    | .IfExp f g h _ => chk C sc c f && chk C sc a g && chk C sc b h
    | _ => false
  | .tup es, e => match e with
    | .Tuple fs _ _ => chkL C sc es fs
    | _ => false
  | .lst es, e => match e with
    | .List fs _ => chkL C sc es fs
    | _ => false
  | .idx a i, e => match e with
    | .Subscript f g _ => chk C sc a f && chk C sc i g && okX g
    | _ => false
  | .slc a lo hi, e => match e with
    | .Subscript f (.Slice l h none _) _ => chk C sc a f && (match l with
      | none => chkL C sc lo []
      | some l => chkL C sc lo [l]) && (match h with
      | none => chkL C sc hi []
      | some h => chkL C sc hi [h])
    | _ => false
  | .call f es, e => match e with
    | .Call (.Name x _) fs [] _ => decide (C.fn f = some x) && glb sc x && okN x && chkL C sc es fs
    | _ => false
  | .fn b es, e => match e with
    | .Call (.Name x _) (f :: fs) [] _ => decide (x = fnS b) && glb sc x && chkL C sc es (f :: fs)
    | _ => false
  | .srt a, e => match e with
    | .Call (.Name x _) [f] [] _ => decide (x = ("sorted" : Str)) && glb sc x && okX f && chk C sc a f
    | _ => false
  | .isi a t, e => match e with
    | .Call (.Name x _) [f, .Name y _] [] _ => decide (x = ("isinstance" : Str)) && glb sc x && chk C sc a f && okX f && decide (y = (tyS t : Str)) && glb sc y
    | _ => false
  | .isis a ts, e => match e with
    | .Call (.Name x _) [f, .Tuple gs _ _] [] _ => decide (x = ("isinstance" : Str)) && glb sc x && chk C sc a f && okX f && isTys ts gs sc && decide (ts.length ≤ 8)
    | _ => false
  | .toS l k src, e => match e with
    | .Call (.Name x _) [f] [] _ => decide (x = if l = true then ("list" : Str) else ("tuple" : Str)) && glb sc x && okX f && plainK k && (match srcOf k sc f with
      | some fs => chkL C sc src fs
      | none => false)
    | _ => false
  | .comp own t k src c m, e => match e with
    | .ListComp elt [⟨tg, iter, ifs, 0⟩] scope _ => blkC C.N sc scope own && chkG C.N (relS scope sc) (fun x => scope.names.lookup x == some .cell) t tg && okX iter && ((tnames t).all fun i => decide (i ∈ own.map (·.2))) && tgFor k tg && (match srcOf k sc iter with
        | some fs => chkL C sc src fs
        | none => false) && chkL C (relS scope sc) c ifs && chk C (relS scope sc) m elt
    | _ => false
def chkL (C : Ck) (sc : Scope) : Exs → List Expr → Bool
  | .nil, fs => match fs with
    | [] => true
    | _ => false
  | .cons a as, fs => match fs with
    | f :: fs => okX f && chk C sc a f && chkL C sc as fs
    | [] => false
end
end Fh

set_option maxHeartbeats 1000000
/-! Fh: what a def promises; how a caller uses it. -/
namespace Fh
open PySem PySem.Spec PyProof.Rows L2
abbrev plus (S : Addr → Prop) (a : Addr) : Addr → Prop := fun b => S b ∨ b = a
section
variable {K : PySem.W.Frag} {S T : Addr → Prop} {ra : Option Addr} {ρ ρ' : Env} {σ σ' : L2.St} {H H' A B : Hp} {a b : Addr}
theorem hid_pub : Hid (fun b => S b ∨ own ρ σ b) H = Pub S ρ σ H := rfl
theorem hid_some {o : HO} (h : Hid S H b = some o) : ¬ S b ∧ H b = some o := by
  unfold Hid at h
  split at h
  · cases h
  · rename_i n
    exact ⟨n, h⟩
theorem hid_of (h : ¬ S b) : Hid S H b = H b := by
  unfold Hid
  rw [if_neg h]
theorem hid_congr (h : ∀ b, S b ↔ T b) : Hid S H = Hid T H := by
  have e : S = T := funext fun b => propext (h b)
  rw [e]
theorem hid_same (h1 : Same (Hid S H) (Hid S H')) (h2 : ∀ b, S b → H' b = H b) : Same H H' := fun b o e => by
  by_cases hb : S b
  · rw [h2 b hb]; exact e
  · have q := h1 b o (by rw [hid_of hb]; exact e)
    exact (hid_some q).2
theorem hid_mono (h : ∀ b o, H b = some o → ¬ S b → ¬ T b ∧ H' b = some o) : Same (Hid S H) (Hid T H') := fun b o e => by
  obtain ⟨h1, h2⟩ := hid_some e
  obtain ⟨g1, g2⟩ := h b o h2 h1
  rw [hid_of g1]
  exact g2
end
/-- what comes back of a def without by-reference parameter -/
def RetA (K : PySem.W.Frag) (S : Addr → Prop) (H H' : Hp) (v : V) (r : Ret) : Prop :=
  if r.2.1 = true then ∃ a, v = V.ref a ∧ ¬ S a ∧ Top K H' (Hid (plus S a) H') a r.1 ∧ Same (Hid S H) (Hid (plus S a) H')
  else Rep K (Hid S H') v r.1 ∧ Same (Hid S H) (Hid S H')
/-- .. with one: at aj now dj -/
def RetB (K : PySem.W.Frag) (T : Addr → Prop) (H H' : Hp) (v : V) (r : Ret) (aj : Addr) (dj : PyData) : Prop :=
  if r.2.1 = true then ∃ a, v = V.ref a ∧ ¬ T a ∧ Top K H' (Hid (plus T a) H') aj dj ∧ Top K H' (Hid (plus T a) H') a r.1 ∧ Same (Hid T H) (Hid (plus T a) H')
  else Top K H' (Hid T H') aj dj ∧ Rep K (Hid T H') v r.1 ∧ Same (Hid T H) (Hid T H')
/-- a def's promise -/
def spF (K : PySem.W.Frag) (refs : Refs) (call : Calls) (f : Nat) : Sp := fun vs H Q _ => ∃ (S : Addr → Prop) (ds : List PV) (r : Ret), (∀ b, S b → H b ≠ none) ∧ call f ds = .ok r ∧ vs.length = ds.length ∧
  match refs f with
  | none => RepAll K (Hid S H) vs ds ∧ ∀ v H', (∀ b, S b → H' b = H b) → RetA K S H H' v r → Q v H'
  | some j => ∃ aj dj dj', ds[j]? = some dj ∧ vs[j]? = some (V.ref aj) ∧ ¬ S aj ∧ Top K H (Hid (plus S aj) H) aj dj ∧ (∀ (i : Nat) (d : PV), i ≠ j → ds[i]? = some d → ∃ v, vs[i]? = some v ∧ Rep K (Hid (plus S aj) H) v d) ∧ r.2.2 = some dj' ∧
      ∀ v H', (∀ b, S b → H' b = H b) → RetB K (plus S aj) H H' v r aj dj' → Q v H'
section
variable {K : PySem.W.Frag} {S T : Addr → Prop} {ra : Option Addr} {ρ ρ' : Env} {σ σ' : L2.St} {H H' A B : Hp} {a b : Addr}
theorem flat_top {d : PyData} (h : flat d = true) (t : Top K H A a d) : False := by
  cases d with
  | list ds => cases h
  | _ => exact t
theorem flat_rep {d : PyData} {v : V} (h : flat d = true) (r : Rep K A v d) : Rep K B v d := by
  cases r with
  | non => exact .non
  | bl b => exact .bl b
  | int b => exact .int b
  | str b => exact .str b
  | lst _ _ => cases h
  | tup _ _ => cases h
/-- a new own object beside what stands -/
theorem SR.beside (r : SR K S ra ρ σ H) (sT : Same (Pub S ρ σ H) (Pub (plus S a) ρ σ H')) (kp : ∀ b, S b ∨ own ρ σ b → H' b = H b) (na : ¬ S a) (no : ¬ own ρ σ a) (ha : H' a ≠ none) : SR K (plus S a) ra ρ σ H' := by
  refine ⟨r.len, fun i d e => ?_, fun i d f e n => ?_, r.inj, fun b hb => ?_⟩
  · obtain ⟨v, h1, h2⟩ := r.fz i d e
    exact ⟨v, h1, h2.mono sT⟩
  · obtain ⟨a', h1, h2, h3, h4⟩ := r.ow i d f e n
    have ho : own ρ σ a' := ⟨i, d, f, e, n, h1⟩
    refine ⟨a', h1, fun z => z.elim h2 fun e => no (e ▸ ho), h3.mono (kp a' (.inr ho)) sT, h4⟩
  · rcases hb with hb | rfl
    · rw [kp b (.inl hb)]; exact r.tr b hb
    · exact ha
theorem pub_plus : Hid (plus (fun b => S b ∨ own ρ σ b) a) H = Pub (plus S a) ρ σ H := hid_congr (S := plus (fun b => S b ∨ own ρ σ b) a) (T := fun b => plus S a b ∨ own ρ σ b) fun b => ⟨fun z => by
    rcases z with (z | z) | z
    · exact .inl (.inl z)
    · exact .inr z
    · exact .inl (.inr z), fun z => by
    rcases z with (z | z) | z
    · exact .inl (.inl z)
    · exact .inr z
    · exact .inl (.inr z)⟩
theorem frzsX_get {i k : Nat} {d : PV} {f : Fg} : ∀ {es : Exs} {ρ : Env}, ρ[i]? = some (some (d, f)) → (frzsX i es ρ)[i]? = some (some (d, f))
  | .nil, _, h => h
  | .cons a as, ρ, h => by
    cases a with
    | v j =>
      show (if j = i then frzsX i as ρ else frzsX i as (frz ρ j))[i]? = _
      by_cases hj : j = i
      · rw [if_pos hj]
        exact frzsX_get (k := k) (es := as) h
      · rw [if_neg hj]
        refine frzsX_get (k := k) (es := as) ?_
        unfold Fh.frz
        split
        · rw [List.getElem?_set_ne hj]; exact h
        · exact h
    | _ => exact frzsX_get (k := k) (es := as) h
theorem frzsX_fz {i j : Nat} {d : PV} : ∀ {es : Exs} {ρ : Env}, ρ[j]? = some (some (d, .fz)) → (frzsX i es ρ)[j]? = some (some (d, .fz))
  | .nil, _, h => h
  | .cons a as, ρ, h => by
    cases a with
    | v l =>
      show (if l = i then frzsX i as ρ else frzsX i as (frz ρ l))[j]? = _
      by_cases hl : l = i
      · rw [if_pos hl]; exact frzsX_fz (es := as) h
      · rw [if_neg hl]; exact frzsX_fz (es := as) (frz_fz h)
    | _ => exact frzsX_fz (es := as) h
theorem SR.frzsX (i : Nat) : ∀ (es : Exs) {ρ : Env}, SR K S ra ρ σ H → SR K S ra (frzsX i es ρ) σ H ∧ Same (Pub S ρ σ H) (Pub S (Fh.frzsX i es ρ) σ H)
  | .nil, _, r => ⟨r, fun _ _ h => h⟩
  | .cons a as, ρ, r => by
    have other : Fh.frzsX i (.cons a as) ρ = Fh.frzsX i as ρ → SR K S ra (Fh.frzsX i (.cons a as) ρ) σ H ∧ Same (Pub S ρ σ H) (Pub S (Fh.frzsX i (.cons a as) ρ) σ H) := fun e => by
      rw [e]
      exact SR.frzsX i as r
    cases a with
    | v j =>
      by_cases hj : j = i
      · exact other (if_pos hj)
      · have e : Fh.frzsX i (.cons (.v j) as) ρ = Fh.frzsX i as (Fh.frz ρ j) := if_neg hj
        rw [e]
        obtain ⟨r1, p1⟩ := r.frz j
        obtain ⟨r2, p2⟩ := SR.frzsX i as r1
        exact ⟨r2, p1.trans p2⟩
    | _ => exact other rfl
/-- every argument but the by-reference one is public -/
theorem HeldAll.repX {i : Nat} : ∀ {es : Exs} {vs : List V} {xs ds : List PyData} {ρ0 ρ : Env} {j : Nat}, SR K S ra ρ σ H → HeldAll K S ρ σ H es vs xs → agains es xs ρ0 = .ok ds → (∀ (i : Nat) (d : PV), getv ρ0 i = .ok d → ∃ f, ρ[i]? = some (some (d, f))) →
    (timesIn i es = 0 ∨ (timesIn i es = 1 ∧ nameAt es j = some i)) → ∀ (m : Nat) (d : PV), (timesIn i es = 0 ∨ m ≠ j) → ds[m]? = some d → ∃ v, vs[m]? = some v ∧ Rep K (Pub S (frzsX i es ρ) σ H) v d
  | _, _, _, _, _, _, _, r, .nil, e, _, _, m, d, _, hd => by
    cases e
    cases hd
  | _, _, _, _, ρ0, ρ, j, r, @HeldAll.cons _ _ _ _ _ a as v vs x xs h q, e, hg, ht, m, d, hm, hd => by
    obtain ⟨d0, ds', rfl, e1, e2⟩ := agains_cons e
    have other : Fh.frzsX i (.cons a as) ρ = Fh.frzsX i as ρ → again a x ρ0 = .ok x → Rep K (Pub S ρ σ H) v x → timesIn i (.cons a as) = timesIn i as → nameAt (.cons a as) 0 = none →
        ∃ v', (v :: vs)[m]? = some v' ∧ Rep K (Pub S (Fh.frzsX i (.cons a as) ρ) σ H) v' d := fun e3 e4 h4 e5 e6 => by
      rw [e4] at e1
      cases e1
      rw [e3]
      cases m with
      | zero =>
        cases hd
        exact ⟨v, rfl, h4.mono (SR.frzsX i as r).2⟩
      | succ m =>
        rw [e5] at ht hm
        cases j with
        | zero =>
          have ht0 : timesIn i as = 0 := ht.elim id fun z => by rw [e6] at z; exact absurd z.2 (by simp)
          obtain ⟨v', h1, h2⟩ := q.repX (j := 0) r e2 hg (.inl ht0) m d (.inl ht0) hd
          exact ⟨v', h1, h2⟩
        | succ j =>
          have hn : nameAt (.cons a as) (j + 1) = nameAt as j := by cases a <;> rfl
          rw [hn] at ht
          obtain ⟨v', h1, h2⟩ := q.repX (j := j) r e2 hg ht m d (hm.imp id fun z w => z (by rw [w])) hd
          exact ⟨v', h1, h2⟩
    cases a with
    | v l =>
      by_cases hl : l = i
      · subst hl
        have e3 : Fh.frzsX l (.cons (.v l) as) ρ = Fh.frzsX l as ρ := if_pos rfl
        have e5 : timesIn l (.cons (.v l) as) = 1 + timesIn l as := by
          show (if l = l then 1 else 0) + timesIn l as = _
          rw [if_pos rfl]
        have ht1 : timesIn l as = 0 := by
          rcases ht with z | z
          · omega
          · have := z.1; omega
        have hm' : m ≠ j := hm.elim (fun z => by omega) id
        have hj : nameAt (.cons (.v l) as) j = some l := ht.elim (fun z => by omega) (fun z => z.2)
        rw [e3]
        cases m with
        | zero =>
          cases j with
          | zero => exact absurd rfl hm'
          | succ j =>
            -- the name would stand once more
            have hn : nameAt as j = some l := hj
            have pos : ∀ (es : Exs) (j : Nat), nameAt es j = some l → timesIn l es ≠ 0 := by
              intro es
              induction es using Exs.rec (motive_1 := fun _ => True) with
              | nil => intro j hj; cases j <;> cases hj
              | cons b bs _ ih =>
                intro j hj
                cases j with
                | zero =>
                  cases b with
                  | v o =>
                    have : o = l := Option.some.inj hj
                    show (if o = l then 1 else 0) + timesIn l bs ≠ 0
                    rw [if_pos this]
                    omega
                  | _ => cases hj
                | succ j =>
                  have hq : nameAt bs j = some l := by cases b <;> exact hj
                  have := ih j hq
                  have ge : timesIn l bs ≤ timesIn l (.cons b bs) := by
                    cases b with
                    | v o => exact Nat.le_add_left _ _
                    | _ => exact Nat.le_refl _
                  omega
              | _ => trivial
            exact absurd ht1 (pos as j hn)
        | succ m =>
          obtain ⟨v', h1, h2⟩ := q.repX (j := 0) r e2 hg (.inl ht1) m d (.inl ht1) hd
          exact ⟨v', h1, h2⟩
      · have e3 : Fh.frzsX i (.cons (.v l) as) ρ = Fh.frzsX i as (Fh.frz ρ l) := if_neg hl
        have e5 : timesIn i (.cons (.v l) as) = timesIn i as := by
          show (if l = i then 1 else 0) + timesIn i as = _
          rw [if_neg hl, Nat.zero_add]
        obtain ⟨r1, s1⟩ := r.frz l
        obtain ⟨f, ef⟩ := hg l d0 e1
        rw [e5] at ht hm
        rw [e3]
        have hg' : ∀ (i : Nat) (d : PV), getv ρ0 i = .ok d → ∃ f, (Fh.frz ρ l)[i]? = some (some (d, f)) := fun j dj ej => by
          obtain ⟨g, eg⟩ := hg j dj ej
          exact frz_any eg
        cases m with
        | zero =>
          have e0 : d0 = d := Option.some.inj hd
          subst e0
          have ez : (Fh.frzsX i as (Fh.frz ρ l))[l]? = some (some (d0, .fz)) := frzsX_fz (es := as) (frz_get ef)
          obtain ⟨w, h1, h2⟩ := (SR.frzsX i as r1).1.fz l d0 ez
          have h : σ[l]? = some (some v) := h
          rw [h] at h1
          cases h1
          exact ⟨v, rfl, h2⟩
        | succ m =>
          cases j with
          | zero =>
            have hn : nameAt (.cons (.v l) as) 0 = some l := rfl
            have ht0 : timesIn i as = 0 := ht.elim id fun z => by
              rw [hn] at z
              exact absurd (Option.some.inj z.2) hl
            obtain ⟨v', h1, h2⟩ := (q.mono s1).repX (j := 0) r1 e2 hg' (.inl ht0) m d (.inl ht0) hd
            exact ⟨v', h1, h2⟩
          | succ j =>
            obtain ⟨v', h1, h2⟩ := (q.mono s1).repX (j := j) r1 e2 hg' (ht.imp id fun z => ⟨z.1, z.2⟩) m d (hm.imp id fun z w => z (by rw [w])) hd
            exact ⟨v', h1, h2⟩
    | _ => exact other rfl rfl h rfl rfl

theorem rep_get : ∀ {es : Exs} {vs : List V} {xs ds : List PyData} {j i : Nat}, HeldAll K S ρ σ H es vs xs → agains es xs ρ = .ok ds → nameAt es j = some i → ∃ d v, ds[j]? = some d ∧ getv ρ i = .ok d ∧ vs[j]? = some v ∧ σ[i]? = some (some v)
  | _, _, _, _, j, i, .nil, e, hn => by cases j <;> cases hn
  | _, _, _, _, j, i, @HeldAll.cons _ _ _ _ _ a as v vs x xs h q, e, hn => by
    obtain ⟨d0, ds', rfl, e1, e2⟩ := agains_cons e
    cases j with
    | zero =>
      cases a with
      | v l =>
        have : l = i := Option.some.inj hn
        subst this
        exact ⟨d0, v, rfl, e1, rfl, h⟩
      | _ => cases hn
    | succ j =>
      have hq : nameAt as j = some i := by cases a <;> exact hn
      obtain ⟨d, w, h1, h2, h3, h4⟩ := rep_get q e2 hq
      exact ⟨d, w, h1, h2, h3, h4⟩
theorem set_get {i : Nat} {x : Cell} (h : i < ρ.length) : (ρ.set i x)[i]? = some x := List.getElem?_set_self h
/-- the caller's side -/
theorem call_use {refs : Refs} {call : Calls} {f : Nat} {es : Exs} {vs : List V} {xs ds : List PV} {d : PV} {fl : Bool} {P0 H0 : Hp} {Q : VK} {E : XK} (r : SR K S ra ρ σ H) (h : HeldAll K S ρ σ H es vs xs) (ea : agains es xs ρ = .ok ds)
    (ec : callE refs call f es ds ρ = .ok (d, fl, ρ')) (hP : Same P0 (Pub S ρ σ H)) (hH : ∀ b, S b → H b = H0 b) (q : ∀ v H', Out K S ra σ P0 H0 v d fl ρ' H' → Q v H') : spF K refs call f vs H Q E := by
  have hlen : vs.length = ds.length := h.length.trans (agains_length ea)
  have getv_any : ∀ (i : Nat) (d : PV), getv ρ i = .ok d → ∃ f, ρ[i]? = some (some (d, f)) := fun i d e => getv_ok e
  unfold callE at ec
  unfold spF
  cases hr : refs f with
  | none =>
    rw [hr] at ec
    obtain ⟨⟨d', fl', o⟩, e1, e3⟩ := bind_ok ec
    have e4 : (d', fl', if flat d' = true then ρ else frzs es ρ) = (d, fl, ρ') := R.ok.inj e3
    simp only [Prod.mk.injEq] at e4
    obtain ⟨rfl, rfl, e2⟩ := e4
    clear e3
    obtain ⟨r1, s1⟩ := SR.frzs es r
    have hrep := h.rep r ea getv_any
    by_cases hf : flat d' = true
    · -- a flat value: nothing is let go
      rw [if_pos hf] at e2
      subst e2
      refine ⟨S, ds, (d', fl', o), r.tr, e1, hlen, ?_, fun v H' kp ret => q v H' ?_⟩
      · -- what the names hold is seen by the callee
        refine hrep.mono fun b o e => ?_
        obtain ⟨h1, _, h2⟩ := pub_some e
        rw [hid_of h1]; exact h2
      · unfold RetA at ret
        cases fl' with
        | true =>
          obtain ⟨a, _, _, t, _⟩ := ret
          exact (flat_top hf t).elim
        | false =>
          obtain ⟨rv, sm⟩ := ret
          obtain ⟨r2, s2, k2⟩ := r.grow (hid_same sm kp)
          exact ⟨fun b hb => (k2 b hb).trans (hH b hb), r2, flat_rep hf rv, hP.trans s2⟩
    · rw [if_neg hf] at e2
      subst e2
      refine ⟨fun b => S b ∨ own (frzs es ρ) σ b, ds, (d', fl', o), fun b hb => hb.elim (r1.tr b) fun z => (r1.ownS z).1, e1, hlen, hrep, fun v H' kp ret => q v H' ?_⟩
      unfold RetA at ret
      cases fl' with
      | true =>
        obtain ⟨a, rfl, nS, t, sm⟩ := ret
        rw [show Hid (plus (fun b => S b ∨ own (frzs es ρ) σ b) a) H' = Pub (plus S a) (frzs es ρ) σ H' from pub_plus] at t sm
        have na : ¬ S a := fun z => nS (.inl z)
        have no : ¬ own (frzs es ρ) σ a := fun z => nS (.inr z)
        exact ⟨fun b hb => (kp b (.inl hb)).trans (hH b hb), a, rfl, na, no, r1.beside sm kp na no t.some, t, (hP.trans s1).trans sm⟩
      | false =>
        obtain ⟨rv, sm⟩ := ret
        obtain ⟨r2, s2, k2⟩ := r1.grow (hid_same sm kp)
        exact ⟨fun b hb => (k2 b hb).trans (hH b hb), r2, rv, (hP.trans s1).trans s2⟩
  | some j =>
    rw [hr] at ec
    dsimp only at ec
    cases hn : nameAt es j with
    | none => rw [hn] at ec; cases ec
    | some i =>
      rw [hn] at ec
      dsimp only at ec
      cases hi : ρ[i]? with
      | none => simp only [hi] at ec; cases ec
      | some c =>
        cases c with
        | none => simp only [hi] at ec; cases ec
        | some c =>
          obtain ⟨d0, f0⟩ := c
          simp only [hi] at ec
          by_cases hc : f0 = .fz ∨ timesIn i es ≠ 1
          · rw [if_pos hc] at ec; cases ec
          · rw [if_neg hc] at ec
            have nf : f0 ≠ .fz := fun z => hc (.inl z)
            have ht : timesIn i es = 1 := Decidable.byContradiction fun z => hc (.inr z)
            obtain ⟨⟨d', fl', o⟩, e1, e3⟩ := bind_ok ec
            cases o with
            | none => cases e3
            | some dj' =>
              have e4 : (d', fl', (frzsX i es ρ).set i (some (dj', f0))) = (d, fl, ρ') := R.ok.inj e3
              simp only [Prod.mk.injEq] at e4
              obtain ⟨rfl, rfl, rfl⟩ := e4
              clear e3
              obtain ⟨dj, vj, g1, g2, g3, g4⟩ := rep_get h ea hn
              obtain ⟨fj, ej⟩ := getv_ok g2
              obtain ⟨rfl, rfl⟩ : dj = d0 ∧ f0 = fj := by
                rw [hi] at ej
                have z := Option.some.inj (Option.some.inj ej)
                exact ⟨(congrArg Prod.fst z).symm, congrArg Prod.snd z⟩
              obtain ⟨r1, s1⟩ := SR.frzsX (K := K) (S := S) (ra := ra) (σ := σ) (H := H) i es r
              have hi1 : (frzsX i es ρ)[i]? = some (some (dj, f0)) := frzsX_get (k := 0) hi
              obtain ⟨aj, h1, h2, h3, h4⟩ := r1.ow i dj f0 hi1 nf
              rw [g4] at h1
              cases h1
              have oj : own (frzsX i es ρ) σ aj := ⟨i, dj, f0, hi1, nf, g4⟩
              -- the callee sees all but the other own objects
              have eT : Hid (plus (fun b => S b ∨ (own (frzsX i es ρ) σ b ∧ b ≠ aj)) aj) = Hid (fun b => S b ∨ own (frzsX i es ρ) σ b) := by
                funext B
                refine hid_congr (S := plus (fun b => S b ∨ (own (frzsX i es ρ) σ b ∧ b ≠ aj)) aj) (T := fun b => S b ∨ own (frzsX i es ρ) σ b) fun b => ⟨fun z => ?_, fun z => ?_⟩
                · rcases z with (z | z) | z
                  · exact .inl z
                  · exact .inr z.1
                  · exact .inr (z ▸ oj)
                · by_cases e : b = aj
                  · exact .inr e
                  · exact .inl (z.imp id fun z => ⟨z, e⟩)
              have ePl : ∀ B, Hid (plus (plus (fun b => S b ∨ (own (frzsX i es ρ) σ b ∧ b ≠ aj)) aj) B) = Hid (plus (fun b => S b ∨ own (frzsX i es ρ) σ b) B) := by
                intro B
                funext H
                refine hid_congr (S := plus (plus (fun b => S b ∨ (own (frzsX i es ρ) σ b ∧ b ≠ aj)) aj) B) (T := plus (fun b => S b ∨ own (frzsX i es ρ) σ b) B) fun b => ⟨fun z => ?_, fun z => ?_⟩
                · rcases z with ((z | z) | z) | z
                  · exact .inl (.inl z)
                  · exact .inl (.inr z.1)
                  · exact .inl (.inr (z ▸ oj))
                  · exact .inr z
                · rcases z with (z | z) | z
                  · exact .inl (.inl (.inl z))
                  · by_cases e : b = aj
                    · exact .inl (.inr e)
                    · exact .inl (.inl (.inr ⟨z, e⟩))
                  · exact .inr z
              have il : i < (frzsX i es ρ).length := lt_of_get hi1
              -- the names behind the call
              have own2 : ∀ b, own ((frzsX i es ρ).set i (some (dj', f0))) σ b ↔ own (frzsX i es ρ) σ b := fun b => ⟨fun ⟨k, dk, fk, ek, nk, sk⟩ => by
                  by_cases hk : i = k
                  · subst hk
                    rw [set_get il] at ek
                    cases ek
                    exact ⟨i, dj, f0, hi1, nf, sk⟩
                  · rw [List.getElem?_set_ne hk] at ek
                    exact ⟨k, dk, fk, ek, nk, sk⟩, fun ⟨k, dk, fk, ek, nk, sk⟩ => by
                  by_cases hk : i = k
                  · subst hk
                    rw [hi1] at ek
                    cases ek
                    exact ⟨i, dj', f0, set_get il, nf, sk⟩
                  · exact ⟨k, dk, fk, by rw [List.getElem?_set_ne hk]; exact ek, nk, sk⟩⟩
              have pub2 : ∀ (U : Addr → Prop) (B : Hp), Pub U ((frzsX i es ρ).set i (some (dj', f0))) σ B = Pub U (frzsX i es ρ) σ B := fun U B => by
                refine hid_congr (S := fun b => U b ∨ own ((frzsX i es ρ).set i (some (dj', f0))) σ b) (T := fun b => U b ∨ own (frzsX i es ρ) σ b) fun b => ⟨fun z => z.imp id (own2 b).mp, fun z => z.imp id (own2 b).mpr⟩
              have after : ∀ (U : Addr → Prop) (H' : Hp), (∀ b, U b → H' b ≠ none) → (∀ b, own (frzsX i es ρ) σ b → ¬ U b) → (∀ b, own (frzsX i es ρ) σ b → b ≠ aj → H' b = H b) → Same (Pub S (frzsX i es ρ) σ H) (Pub U (frzsX i es ρ) σ H') → Top K H' (Pub U (frzsX i es ρ) σ H') aj dj' →
                  SR K U ra ((frzsX i es ρ).set i (some (dj', f0))) σ H' := fun U H' hU hn hk sm tp => by
                refine ⟨by rw [List.length_set]; exact r1.len, fun k dk ek => ?_, fun k dk fk ek nk => ?_, fun k l b dk fk dl fl ek nk el nl sk sl => ?_, hU⟩
                · by_cases hk' : i = k
                  · subst hk'
                    rw [set_get il] at ek
                    cases ek
                    exact absurd rfl nf
                  · rw [List.getElem?_set_ne hk'] at ek
                    obtain ⟨w, z1, z2⟩ := r1.fz k dk ek
                    rw [pub2]
                    exact ⟨w, z1, z2.mono sm⟩
                · by_cases hk' : i = k
                  · subst hk'
                    rw [set_get il] at ek
                    cases ek
                    rw [pub2]
                    exact ⟨aj, g4, hn aj oj, tp, h4⟩
                  · rw [List.getElem?_set_ne hk'] at ek
                    obtain ⟨b, z1, z2, z3, z4⟩ := r1.ow k dk fk ek nk
                    rw [pub2]
                    have ob : own (frzsX i es ρ) σ b := ⟨k, dk, fk, ek, nk, z1⟩
                    have nb : b ≠ aj := fun e => hk' (r1.inj i k aj dj f0 dk fk hi1 nf ek nk g4 (e ▸ z1))
                    exact ⟨b, z1, hn b ob, z3.mono (hk b ob nb) sm, z4⟩
                · have back : ∀ (k : Nat) (dk : PV) (fk : Fg), ((frzsX i es ρ).set i (some (dj', f0)))[k]? = some (some (dk, fk)) → fk ≠ .fz → ∃ dk', (frzsX i es ρ)[k]? = some (some (dk', fk)) := fun k dk fk ek nk => by
                    by_cases hk' : i = k
                    · subst hk'
                      rw [set_get il] at ek
                      cases ek
                      exact ⟨dj, hi1⟩
                    · rw [List.getElem?_set_ne hk'] at ek
                      exact ⟨dk, ek⟩
                  obtain ⟨dk', ek'⟩ := back k dk fk ek nk
                  obtain ⟨dl', el'⟩ := back l dl fl el nl
                  exact r1.inj k l b dk' fk dl' fl ek' nk el' nl sk sl
              refine ⟨fun b => S b ∨ (own (frzsX i es ρ) σ b ∧ b ≠ aj), ds, (d', fl', some dj'), fun b hb => hb.elim (r1.tr b) fun z => (r1.ownS z.1).1, e1, hlen, aj, dj, dj', g1, g3, fun z => z.elim h2 fun z => z.2 rfl, ?_, fun m dm hm em => ?_, rfl, fun v H' kp ret => q v H' ?_⟩
              · rw [eT]; exact h3
              · rw [eT]
                exact h.repX (i := i) (j := j) r ea getv_any (.inr ⟨ht, hn⟩) m dm (.inr hm) em
              · unfold RetB at ret
                rw [eT] at ret
                have kpO : ∀ b, own (frzsX i es ρ) σ b → b ≠ aj → H' b = H b := fun b ob nb => kp b (.inr ⟨ob, nb⟩)
                cases fl' with
                | false =>
                  obtain ⟨tp, rv, sm⟩ := ret
                  have r2 := after S H' (fun b hb => by rw [kp b (.inl hb)]; exact r.tr b hb) (fun b ob => (r1.ownS ob).2) kpO sm tp
                  refine ⟨fun b hb => (kp b (.inl hb)).trans (hH b hb), r2, ?_, ?_⟩
                  · rw [pub2]; exact rv
                  · rw [pub2]; exact (hP.trans s1).trans sm
                | true =>
                  obtain ⟨a, rfl, nT, tp, ta, sm⟩ := ret
                  rw [ePl] at tp ta sm
                  rw [show Hid (plus (fun b => S b ∨ own (frzsX i es ρ) σ b) a) H' = Pub (plus S a) (frzsX i es ρ) σ H' from pub_plus] at tp ta sm
                  have na : ¬ S a := fun z => nT (.inl (.inl z))
                  have no : ¬ own (frzsX i es ρ) σ a := fun z => nT (by
                    by_cases e : a = aj
                    · exact .inr e
                    · exact .inl (.inr ⟨z, e⟩))
                  have r2 := after (plus S a) H' (fun b hb => hb.elim (fun z => by rw [kp b (.inl z)]; exact r.tr b z) fun z => by rw [z]; exact ta.some) (fun b ob z => z.elim (r1.ownS ob).2 fun z => no (z ▸ ob)) kpO sm tp
                  refine ⟨fun b hb => (kp b (.inl hb)).trans (hH b hb), a, rfl, na, fun z => no ((own2 a).mp z), r2, ?_, ?_⟩
                  · have := pub2 (plus S a) H'
                    rw [show Pub (fun b => S b ∨ b = a) ((frzsX i es ρ).set i (some (dj', f0))) σ H' = Pub (plus S a) (frzsX i es ρ) σ H' from this]
                    exact ta
                  · have := pub2 (plus S a) H'
                    rw [show Pub (fun b => S b ∨ b = a) ((frzsX i es ρ).set i (some (dj', f0))) σ H' = Pub (plus S a) (frzsX i es ρ) σ H' from this]
                    exact (hP.trans s1).trans sm
end
end Fh

set_option maxHeartbeats 1000000
/-! Fh: expressions. -/
namespace Fh
open PySem PySem.Spec PyProof.Rows L2
def bnames : List Str := ["len", "abs", "int", "min", "max", "sum", "all", "any", "sorted", "list", "tuple", "isinstance", "range", "zip", "enumerate", "bool", "str", "dict"]
structure Cf (C : Ck) (refs : Refs) (call : Calls) (k : Nat) (X : Cx) : Prop where
  N : X.N = C.N
  nd : X.N.Nodup
  calm : X.calm = true
  room : Room k X.A
  bltn : ∀ x ∈ bnames, X.mg x = none
  glo : ∀ x d, C.gl x d = true → isM d = false ∧ ∃ v u, X.mg x = some u ∧ RelV v u ∧ Rep X.K (fun _ => none) v d
  defs : ∀ f x, C.fn f = some x → ∃ a fd ps, X.mg x = some (.ref a) ∧ PySem.W.keepIn X.K (.ref a) = true ∧ Binds X.K fd ps [] ∧ FnOk X.prog X.w X.K X.mg X.base CX0 k a fd ps (spF X.K refs call f)
/-! ### readings -/
section
variable (K : PySem.W.Frag) (refs : Refs) (call : Calls)
def TEv (m : Ex) : TE := fun σ H Q => ∃ S ra ρ d f ρ', SR K S ra ρ σ H ∧ evE refs call m ρ = .ok (d, f, ρ') ∧ ∀ v H', Out K S ra σ (Pub S ρ σ H) H v d f ρ' H' → Q v H'
/-- what stands behind a step -/
def Aft (S : Addr → Prop) (ra : Option Addr) (ρ : Env) (σ : L2.St) (H : Hp) (ρ' : Env) (H' : Hp) : Prop := SR K S ra ρ' σ H' ∧ Same (Pub S ρ σ H) (Pub S ρ' σ H') ∧ ∀ b, S b → H' b = H b
def TPk (m : Ex) : TE := fun σ H Q => ∃ S ra ρ d ρ', SR K S ra ρ σ H ∧ peek m ρ (evE refs call m ρ) = .ok (d, ρ') ∧ ∀ v H', Aft K S ra ρ σ H ρ' H' → Held K S ρ' σ H' m v d → Q v H'
def TTe (m : Ex) : TT := fun σ H Q => ∃ S ra ρ d f ρ' t, SR K S ra ρ σ H ∧ evE refs call m ρ = .ok (d, f, ρ') ∧ truth d = .ok t ∧ ∀ H', Aft K S ra ρ σ H ρ' H' → Q t H'
def TTp (m : Ex) : TT := fun σ H Q => ∃ S ra ρ d ρ' t, SR K S ra ρ σ H ∧ peek m ρ (evE refs call m ρ) = .ok (d, ρ') ∧ truth d = .ok t ∧ ∀ H', Aft K S ra ρ σ H ρ' H' → Q t H'
def TPs (es : Exs) : TA := fun σ H Q => ∃ S ra ρ xs ρ', SR K S ra ρ σ H ∧ evP refs call es ρ = .ok (xs, ρ') ∧ ∀ vs H', Aft K S ra ρ σ H ρ' H' → HeldAll K S ρ' σ H' es vs xs → Q vs H'
def TLs (es : Exs) : TA := fun σ H Q => ∃ S ra ρ xs ρ', SR K S ra ρ σ H ∧ evL refs call es ρ = .ok (xs, ρ') ∧ ∀ vs H', Aft K S ra ρ σ H ρ' H' → RepAll K (Pub S ρ' σ H') vs xs → Q vs H'
/-- what a walk gives: data of A0, the pairs of zip and enumerate as new tuples -/
def Goes (A0 : Hp) (xs : List PyData) (J : It) : Prop := ∃ G Y, Walk J xs.length G Y ∧ (∀ H, Same A0 H → G H) ∧ ∀ (i : Nat) (H : Hp) (x : V) (H' : Hp) (d : PyData), Same A0 H → xs[i]? = some d → Y i H x H' →
  (H' = H ∧ Rep K A0 x d) ∨ ∃ p vs ds, H p = none ∧ x = V.ref p ∧ H' = upd H p (.tup vs) ∧ d = .tuple ds ∧ RepAll K A0 vs ds
def TIt (k : ItK) (src : Exs) : TI := fun σ H R => ∃ S ra ρ ds ρ' xs, SR K S ra ρ σ H ∧ evL refs call src ρ = .ok (ds, ρ') ∧ items k ds = .ok xs ∧ ∀ J H', Aft K S ra ρ σ H ρ' H' → Goes K (Pub S ρ' σ H') xs J → R J H'
end
theorem _root_.L2.PE.weak {X : Cx} {e : Expr} {t t' : TE} (h : PE X e t) (w : ∀ σ H Q, t' σ H Q → t σ H Q) : PE X e t' := ⟨fun pins s σ H Q I q => h.run pins s σ H Q I (w σ H Q q)⟩
theorem _root_.L2.PT.weak {X : Cx} {e : Expr} {t t' : TT} (h : PT X e t) (w : ∀ σ H Q, t' σ H Q → t σ H Q) : PT X e t' := ⟨fun pins s σ H Q I q => h.run pins s σ H Q I (w σ H Q q)⟩
theorem _root_.L2.PA.weak {X : Cx} {e : List Expr} {t t' : TA} (h : PA X e t) (w : ∀ σ H Q, t' σ H Q → t σ H Q) : PA X e t' := ⟨fun pos pins s σ H Q I q => h.run pos pins s σ H Q I (w σ H Q q)⟩
theorem _root_.L2.PI.weak {X : Cx} {tg e : Expr} {t t' : TI} (h : PI X tg e t) (w : ∀ σ H R, t' σ H R → t σ H R) : PI X tg e t' := ⟨fun pins s σ H Q I q => h.run pins s σ H Q I (w σ H Q q)⟩
theorem _root_.L2.PS.weak {X : Cx} {e : Stmt} {t t' : TS} (h : PS X e t) (w : ∀ D σ H, t' D σ H → t D σ H) : PS X e t' := ⟨fun pins s σ H D I q => h.run pins s σ H D I (w D σ H q)⟩
theorem _root_.L2.PSs.weak {X : Cx} {e : List Stmt} {t t' : TS} (h : PSs X e t) (w : ∀ D σ H, t' D σ H → t D σ H) : PSs X e t' := ⟨fun pins s σ H D I q => h.run pins s σ H D I (w D σ H q)⟩
section
variable {K : PySem.W.Frag} {refs : Refs} {call : Calls} {S : Addr → Prop} {ra : Option Addr} {ρ ρ1 ρ2 : Env} {σ : L2.St} {H H1 H2 : Hp}
theorem Aft.refl (r : SR K S ra ρ σ H) : Aft K S ra ρ σ H ρ H := ⟨r, fun _ _ h => h, fun _ _ => rfl⟩
theorem Aft.trans (a : Aft K S ra ρ σ H ρ1 H1) (b : Aft K S ra ρ1 σ H1 ρ2 H2) : Aft K S ra ρ σ H ρ2 H2 := ⟨b.1, a.2.1.trans b.2.1, fun x h => (b.2.2 x h).trans (a.2.2 x h)⟩
theorem Aft.frz (r : SR K S ra ρ σ H) (i : Nat) : Aft K S ra ρ σ H (frz ρ i) H := ⟨(r.frz i).1, (r.frz i).2, fun _ _ => rfl⟩
theorem Aft.grow (r : SR K S ra ρ σ H) (s : Same H H1) : Aft K S ra ρ σ H ρ H1 := r.grow s
/-- a result behind a step -/
theorem Aft.res {v : V} {d : PyData} (a : Aft K S ra ρ σ H ρ1 H1) (r : Res K (Pub S ρ1 σ H1) H1 v d H2) : Out K S ra σ (Pub S ρ σ H) H v d (isM d) ρ1 H2 := r.out a.1 a.2.1 a.2.2
theorem Aft.flat {v : V} {d : PyData} (a : Aft K S ra ρ σ H ρ1 H1) (m : isM d = false) (r : Rep K (Pub S ρ1 σ H1) v d) : Out K S ra σ (Pub S ρ σ H) H v d false ρ1 H1 := by
  have := a.res (.old m r)
  rwa [m] at this
theorem Aft.pub {v : V} {d : PyData} (a : Aft K S ra ρ σ H ρ1 H1) (r : Rep K (Pub S ρ1 σ H1) v d) : Out K S ra σ (Pub S ρ σ H) H v d false ρ1 H1 := ⟨a.2.2, a.1, r, a.2.1⟩
theorem Out.more {v : V} {d : PyData} {f : Bool} (a : Aft K S ra ρ σ H ρ1 H1) (o : Out K S ra σ (Pub S ρ1 σ H1) H1 v d f ρ2 H2) : Out K S ra σ (Pub S ρ σ H) H v d f ρ2 H2 := by
  obtain ⟨k, o⟩ := o
  refine ⟨fun b hb => (k b hb).trans (a.2.2 b hb), ?_⟩
  cases f with
  | false => exact ⟨o.1, o.2.1, a.2.1.trans o.2.2⟩
  | true =>
    obtain ⟨x, e, n1, n2, r, t, s⟩ := o
    exact ⟨x, e, n1, n2, r, t, a.2.1.trans s⟩
theorem Out.aft {v : V} {d : PyData} {f : Bool} (o : Out K S ra σ (Pub S ρ σ H) H v d f ρ1 H1) : Aft K S ra ρ σ H ρ1 H1 ∧ Rep K (Pub S ρ1 σ H1) v d := by
  obtain ⟨r, h, s⟩ := o.let_go
  exact ⟨⟨r, s, o.keep⟩, h⟩
theorem peek_v {i : Nat} {r : R (PV × Bool × Env)} {d : PV} (e : peek (.v i) ρ r = .ok (d, ρ1)) : getv ρ i = .ok d ∧ ρ1 = ρ := by
  have e : (getv ρ i).bind (fun d => R.ok (d, ρ)) = .ok (d, ρ1) := e
  obtain ⟨d', h1, h2⟩ := bind_ok e
  cases h2
  exact ⟨h1, rfl⟩
theorem peek_o {a : Ex} {r : R (PV × Bool × Env)} {d : PV} (h : ∀ i, a ≠ .v i) (e : peek a ρ r = .ok (d, ρ1)) : ∃ f, r = .ok (d, f, ρ1) := by
  have e : r.bind (fun p => R.ok (p.1, p.2.2)) = .ok (d, ρ1) := by
    cases a <;> first | exact e | exact absurd rfl (h _)
  obtain ⟨⟨d', f', ρ'⟩, h1, h2⟩ := bind_ok e
  cases h2
  exact ⟨f', h1⟩
/-- an operand that is no name -/
theorem held_o {a : Ex} {v : V} {d : PyData} (h : ∀ i, a ≠ .v i) (r : Rep K (Pub S ρ σ H) v d) : Held K S ρ σ H a v d := by
  cases a <;> first | exact r | exact absurd rfl (h _)
/-! ### operands -/
theorem pk_of {X : Cx} {m : Ex} {e : Expr} (hE : PE X e (TEv X.K refs call m)) (hV : ∀ i, m = .v i → PE X e (tVar i)) : PE X e (TPk X.K refs call m) := by
  by_cases h : ∃ i, m = .v i
  · obtain ⟨i, rfl⟩ := h
    refine (hV i rfl).weak fun σ H Q ⟨S, ra, ρ, d, ρ', r, e, q⟩ => ?_
    obtain ⟨e1, rfl⟩ := peek_v e
    obtain ⟨v, h1, _⟩ := r.opd e1
    exact ⟨v, h1, q v H (.refl r) h1⟩
  · have h : ∀ i, m ≠ .v i := fun i e => h ⟨i, e⟩
    refine hE.weak fun σ H Q ⟨S, ra, ρ, d, ρ', r, e, q⟩ => ?_
    obtain ⟨f, e1⟩ := peek_o h e
    refine ⟨S, ra, ρ, d, f, ρ', r, e1, fun v H' o => ?_⟩
    obtain ⟨a, rp⟩ := o.aft
    exact q v H' a (held_o h rp)
/-- two operands, from the left -/
theorem two {a b : Ex} {x y : PV} {R : V → V → Hp → Prop} (r : SR K S ra ρ σ H) (e1 : peek a ρ (evE refs call a ρ) = .ok (x, ρ1)) (e2 : peek b ρ1 (evE refs call b ρ1) = .ok (y, ρ2))
    (h : ∀ v w H2, Aft K S ra ρ σ H ρ2 H2 → Held K S ρ2 σ H2 a v x → Held K S ρ2 σ H2 b w y → R v w H2) : TPk K refs call a σ H fun v H1 => TPk K refs call b σ H1 fun w H2 => R v w H2 :=
  ⟨S, ra, ρ, x, ρ1, r, e1, fun v H1 a1 hv => ⟨S, ra, ρ1, y, ρ2, a1.1, e2, fun w H2 a2 hw => h v w H2 (a1.trans a2) (hv.mono a2.2.1) hw⟩⟩
theorem again_self {a : Ex} {v : V} {x : PV} (r : SR K S ra ρ σ H) (e : peek a ρ1 (evE refs call a ρ1) = .ok (x, ρ)) (h : Held K S ρ σ H a v x) : Opd K (Pub S ρ σ H) H v x := by
  by_cases hv : ∃ i, a = .v i
  · obtain ⟨i, rfl⟩ := hv
    obtain ⟨e1, rfl⟩ := peek_v e
    exact h.use r e1
  · have hv : ∀ i, a ≠ .v i := fun i e => hv ⟨i, e⟩
    have h : Rep K (Pub S ρ σ H) v x := by
      cases a <;> first | exact h | exact absurd rfl (hv _)
    exact .inl h

/-! ### what the text's shape gives -/
theorem star_plain {e : Expr} {es : List Expr} {env : PySem.Env} (h : okX e = true) : starEach (e :: es) env = (false, eval e env) :: starEach es env := by
  cases e <;> first | rfl | cases h
theorem plainIx {e : Expr} (h : okX e = true) : PlainIx e := fun _ _ => by
  cases e <;> first | rfl | cases h
theorem noMarks {e : Expr} {op : CmpOp} (h : okX e = true) : behindInMarks op e = false := by
  cases e <;> first | rfl | cases h
theorem noFold {e : Expr} {env : PySem.Env} (h : okX e = true) : ∀ x, foldedSetIterable e env x = pure x := fun _ => by
  cases e <;> first | rfl | cases h
theorem noStar {C : Ck} {sc : Scope} {env : PySem.Env} {pos : Pos} : ∀ {es : Exs} {fs : List Expr}, chkL C sc es fs = true → (backTo pos (starEach fs env)).any (·.1) = false
  | .nil, [], _ => rfl
  | .cons a as, f :: fs, h => by
    unfold chkL at h
    simp only [Bool.and_eq_true] at h
    rw [star_plain h.1.1]
    show ((backTo pos ((false, eval f env) :: starEach fs env)).any (·.1)) = false
    have := noStar (es := as) (pos := pos) (env := env) h.2
    unfold backTo at this ⊢
    rw [List.map_cons, List.any_cons, this] <;> rfl
  | .nil, _ :: _, h => by unfold chkL at h; cases h
  | .cons _ _, [], h => by unfold chkL at h; cases h
theorem vis_ok {sc : Scope} {x : Str} (h : vis sc x = true) : Vis sc x := by
  unfold vis at h
  split at h
  · rename_i e; exact .inl e
  · rename_i e; exact .inr (.inl e)
  · rename_i e; exact .inr (.inr e)
  · cases h
theorem okN_ok {x : Str} (h : okN x = true) : (x == ("__debug__" : Str)) = false ∧ (x == ("__classdict__" : Str)) = false ∧ x ≠ "__name__" := by
  unfold okN at h
  simp only [Bool.and_eq_true, Bool.not_eq_true'] at h
  exact ⟨h.1.1, h.1.2, beq_eq_false_iff_ne.mp h.2⟩
variable {C : Ck} {k : Nat}
theorem s_var {i : Nat} {e : Expr} {sc : Scope} {X : Cx} (h : chk C sc (.v i) e = true) (cf : Cf C refs call k X) (hs : X.env.scope = sc) : PE X e (tVar i) := by
  unfold chk at h
  split at h
  · rename_i x pos
    simp only [Bool.and_eq_true, decide_eq_true_eq] at h
    obtain ⟨⟨h1, h2⟩, h3⟩ := h
    obtain ⟨n1, n2, _⟩ := okN_ok h3
    exact pe_var (by rw [cf.N]; exact h1) (by rw [hs]; exact vis_ok h2) n1 n2
  · cases h
theorem gl_of {sc : Scope} {x : Str} {X : Cx} (h : glb sc x = true) (hs : X.env.scope = sc) : Gl X x := by
  show X.env.scope.names.lookup x = _
  rw [hs]
  exact of_decide_eq_true h
/-- a value's truth, as a test -/
theorem tru_test {a : Ex} {v : V} {d : PyData} {t : Bool} {X : Cx} {ρ0 : Env} (r : SR X.K S ra ρ σ H) (e : peek a ρ0 (evE refs call a ρ0) = .ok (d, ρ)) (h : Held X.K S ρ σ H a v d) (et : truth d = .ok t) : TruV X.K v H t :=
  truV pub_same (again_self r e h) et
theorem fn_boot : ∀ b : Fn, ∃ id, (fnV b = .builtin id ∨ fnV b = .type id) ∧ bootBuiltins (fnS b) = some (fnV b) := by
  intro b
  cases b
  all_goals first
    | exact ⟨_, .inl rfl, by decide +kernel⟩
    | exact ⟨_, .inr rfl, by decide +kernel⟩
theorem fn_names : ∀ b : Fn, fnS b ∈ bnames := by
  intro b
  cases b <;> decide +kernel
theorem bn_ok : ∀ x ∈ bnames, okN x = true := by decide +kernel
end
end Fh

set_option maxHeartbeats 2000000
/-! Fh: names set, names wiped. -/
namespace Fh
open PySem PySem.Spec PyProof.Rows L2
section
variable {K : PySem.W.Frag} {S : Addr → Prop} {ra : Option Addr} {ρ ρ1 ρ2 : Env} {σ σ1 : L2.St} {H H1 H2 : Hp} {a b : Addr}
/-- one cell's change that owns no more -/
theorem SR.cell (r : SR K S ra ρ σ H) (i : Nat) (c : Cell) (w : Option V) (hc : ∀ d f, c = some (d, f) → f = .fz ∧ ∃ v, w = some v ∧ i < σ.length ∧ Rep K (Pub S ρ σ H) v d) :
    SR K S ra (ρ.set i c) (σ.set i w) H ∧ Same (Pub S ρ σ H) (Pub S (ρ.set i c) (σ.set i w) H) := by
  have back : ∀ (j : Nat) (d : PV) (f : Fg), (ρ.set i c)[j]? = some (some (d, f)) → f ≠ .fz → i ≠ j ∧ ρ[j]? = some (some (d, f)) ∧ (σ.set i w)[j]? = σ[j]? := fun j d f e n => by
    by_cases hj : i = j
    · subst hj
      have hl := lt_of_get e
      rw [List.length_set] at hl
      rw [List.getElem?_set_self hl] at e
      have e := Option.some.inj e
      exact absurd (hc d f e).1 n
    · rw [List.getElem?_set_ne hj] at e
      exact ⟨hj, e, List.getElem?_set_ne hj⟩
  have sub : ∀ b, own (ρ.set i c) (σ.set i w) b → own ρ σ b := fun b ⟨j, d, f, e, n, es⟩ => by
    obtain ⟨_, h1, h2⟩ := back j d f e n
    rw [h2] at es
    exact ⟨j, d, f, h1, n, es⟩
  have hp : Same (Pub S ρ σ H) (Pub S (ρ.set i c) (σ.set i w) H) := pub_mono fun b o e h1 h2 => ⟨h1, fun z => h2 (sub b z), e⟩
  refine ⟨⟨by rw [List.length_set, List.length_set]; exact r.len, fun j d e => ?_, fun j d f e n => ?_, fun j k x d f d' f' e n e' n' es es' => ?_, r.tr⟩, hp⟩
  · by_cases hj : i = j
    · subst hj
      have hl := lt_of_get e
      rw [List.length_set] at hl
      rw [List.getElem?_set_self hl] at e
      have e := Option.some.inj e
      obtain ⟨_, v, hw, hl2, hr⟩ := hc d .fz e
      subst hw
      exact ⟨v, List.getElem?_set_self hl2, hr.mono hp⟩
    · rw [List.getElem?_set_ne hj] at e
      obtain ⟨v, h1, h2⟩ := r.fz j d e
      exact ⟨v, by rw [List.getElem?_set_ne hj]; exact h1, h2.mono hp⟩
  · obtain ⟨hj, h1, h2⟩ := back j d f e n
    obtain ⟨x, g1, g2, g3, g4⟩ := r.ow j d f h1 n
    exact ⟨x, by rw [h2]; exact g1, g2, g3.mono rfl hp, g4⟩
  · obtain ⟨_, h1, h2⟩ := back j d f e n
    obtain ⟨_, h1', h2'⟩ := back k d' f' e' n'
    rw [h2] at es
    rw [h2'] at es'
    exact r.inj j k x d f d' f' h1 n h1' n' es es'
theorem SR.setz (r : SR K S ra ρ σ H) {i : Nat} {v : V} {d : PyData} (hi : i < ρ.length) (h : Rep K (Pub S ρ σ H) v d) : SR K S ra (ρ.set i (some (d, .fz))) (σ.set i (some v)) H ∧ Same (Pub S ρ σ H) (Pub S (ρ.set i (some (d, .fz))) (σ.set i (some v)) H) :=
  r.cell i _ _ fun d' f' e => by
    cases e
    exact ⟨rfl, v, rfl, by rw [← r.len]; exact hi, h⟩
theorem SR.wipe (r : SR K S ra ρ σ H) : ∀ is : List Nat, SR K S ra (wipe ρ is) (L2.wipe σ is) H ∧ Same (Pub S ρ σ H) (Pub S (Fh.wipe ρ is) (L2.wipe σ is) H)
  | [] => ⟨r, fun _ _ h => h⟩
  | i :: is => by
    obtain ⟨r1, s1⟩ := SR.wipe r is
    obtain ⟨r2, s2⟩ := r1.cell i none none (fun _ _ e => nomatch e)
    exact ⟨r2, s1.trans s2⟩
/-- an own object given to a name -/
theorem SR.seto (r : SR K (plus S a) ra ρ σ H) (nS : ¬ S a) (nO : ¬ own ρ σ a) {i : Nat} {d : PyData} (hi : i < ρ.length) (t : Top K H (Pub (plus S a) ρ σ H) a d) :
    SR K S ra (ρ.set i (some (d, .ow))) (σ.set i (some (V.ref a))) H ∧ Same (Pub (plus S a) ρ σ H) (Pub S (ρ.set i (some (d, .ow))) (σ.set i (some (V.ref a))) H) := by
  have hi2 : i < σ.length := by rw [← r.len]; exact hi
  have back : ∀ (j : Nat) (d' : PV) (f : Fg), (ρ.set i (some (d, .ow)))[j]? = some (some (d', f)) → f ≠ .fz → (i = j ∧ d' = d ∧ f = .ow ∧ (σ.set i (some (V.ref a)))[j]? = some (some (V.ref a))) ∨ (i ≠ j ∧ ρ[j]? = some (some (d', f)) ∧ (σ.set i (some (V.ref a)))[j]? = σ[j]?) := fun j d' f e n => by
    by_cases hj : i = j
    · subst hj
      rw [List.getElem?_set_self hi] at e
      cases e
      exact .inl ⟨rfl, rfl, rfl, List.getElem?_set_self hi2⟩
    · rw [List.getElem?_set_ne hj] at e
      exact .inr ⟨hj, e, List.getElem?_set_ne hj⟩
  have sub : ∀ b, own (ρ.set i (some (d, .ow))) (σ.set i (some (V.ref a))) b → b = a ∨ own ρ σ b := fun b ⟨j, d', f, e, n, es⟩ => by
    rcases back j d' f e n with ⟨_, _, _, h⟩ | ⟨_, h1, h2⟩
    · rw [h] at es
      cases es
      exact .inl rfl
    · rw [h2] at es
      exact .inr ⟨j, d', f, h1, n, es⟩
  have hp : Same (Pub (plus S a) ρ σ H) (Pub S (ρ.set i (some (d, .ow))) (σ.set i (some (V.ref a))) H) := pub_mono fun b o e h1 h2 => ⟨fun z => h1 (.inl z), fun z => (sub b z).elim (fun z => h1 (.inr z)) h2, e⟩
  refine ⟨⟨by rw [List.length_set, List.length_set]; exact r.len, fun j d' e => ?_, fun j d' f e n => ?_, fun j k x d' f d2 f' e n e' n' es es' => ?_, fun b hb => r.tr b (.inl hb)⟩, hp⟩
  · by_cases hj : i = j
    · subst hj
      rw [List.getElem?_set_self hi] at e
      cases e
    · rw [List.getElem?_set_ne hj] at e
      obtain ⟨v, h1, h2⟩ := r.fz j d' e
      exact ⟨v, by rw [List.getElem?_set_ne hj]; exact h1, h2.mono hp⟩
  · rcases back j d' f e n with ⟨_, rfl, rfl, h⟩ | ⟨_, h1, h2⟩
    · exact ⟨a, h, nS, t.mono rfl hp, fun z => nomatch z⟩
    · obtain ⟨x, g1, g2, g3, g4⟩ := r.ow j d' f h1 n
      exact ⟨x, by rw [h2]; exact g1, fun z => g2 (.inl z), g3.mono rfl hp, g4⟩
  · rcases back j d' f e n with ⟨j1, _, _, h⟩ | ⟨j1, h1, h2⟩ <;> rcases back k d2 f' e' n' with ⟨k1, _, _, h'⟩ | ⟨k1, h1', h2'⟩
    · exact j1.symm.trans k1
    · rw [h] at es
      rw [h2'] at es'
      cases es
      exact absurd ⟨k, d2, f', h1', n', es'⟩ nO
    · rw [h'] at es'
      rw [h2] at es
      cases es'
      exact absurd ⟨j, d', f, h1, n, es⟩ nO
    · rw [h2] at es
      rw [h2'] at es'
      exact r.inj j k x d' f d2 f' h1 n h1' n' es es'
/-- an end, stored -/
theorem Out.store {P0 H0 : Hp} {v : V} {d : PyData} {f : Bool} {i : Nat} (o : Out K S ra σ P0 H0 v d f ρ H) (hi : i < ρ.length) :
    SR K S ra (ρ.set i (some (d, fgOf f))) (σ.set i (some v)) H ∧ Same P0 (Pub S (ρ.set i (some (d, fgOf f))) (σ.set i (some v)) H) := by
  obtain ⟨_, o⟩ := o
  cases f with
  | false =>
    obtain ⟨r, h, s⟩ := o
    obtain ⟨r1, s1⟩ := r.setz hi h
    exact ⟨r1, s.trans s1⟩
  | true =>
    obtain ⟨a, rfl, n1, n2, r, t, s⟩ := o
    obtain ⟨r1, s1⟩ := SR.seto r n1 n2 hi t
    exact ⟨r1, s.trans s1⟩
theorem unwipe_length {ρ0 : Env} : ∀ is : List Nat, (unwipe ρ0 ρ is).length = ρ.length
  | [] => rfl
  | i :: is => by
    show ((unwipe ρ0 ρ is).set i _).length = _
    rw [List.length_set, unwipe_length is]
theorem unwipe_in {ρ0 : Env} {j : Nat} : ∀ is : List Nat, j ∈ is → j < ρ.length → (unwipe ρ0 ρ is)[j]? = some (ρ0.getD j none)
  | [], h, _ => by cases h
  | i :: is, h, hl => by
    show ((unwipe ρ0 ρ is).set i (ρ0.getD i none))[j]? = _
    by_cases hi : i = j
    · subst hi
      rw [List.getElem?_set_self (by rw [unwipe_length]; exact hl)]
    · rw [List.getElem?_set_ne hi]
      exact unwipe_in is ((List.mem_cons.mp h).elim (fun e => absurd e.symm hi) id) hl
theorem unwipe_out {ρ0 : Env} {j : Nat} : ∀ is : List Nat, j ∉ is → (unwipe ρ0 ρ is)[j]? = ρ[j]?
  | [], _ => rfl
  | i :: is, h => by
    show ((unwipe ρ0 ρ is).set i (ρ0.getD i none))[j]? = _
    rw [List.getElem?_set_ne (show i ≠ j from fun e => h (by rw [e]; exact List.mem_cons_self))]
    exact unwipe_out is fun z => h (List.mem_cons_of_mem _ z)
theorem l2wipe_out {j : Nat} : ∀ is : List Nat, j ∉ is → (L2.wipe σ is)[j]? = σ[j]?
  | [], _ => rfl
  | i :: is, h => by
    show ((L2.wipe σ is).set i none)[j]? = _
    rw [List.getElem?_set_ne (show i ≠ j from fun e => h (by rw [e]; exact List.mem_cons_self))]
    exact l2wipe_out is fun z => h (List.mem_cons_of_mem _ z)
theorem wipe_out {j : Nat} : ∀ is : List Nat, j ∉ is → (wipe ρ is)[j]? = ρ[j]?
  | [], _ => rfl
  | i :: is, h => by
    show ((wipe ρ is).set i none)[j]? = _
    rw [List.getElem?_set_ne (show i ≠ j from fun e => h (by rw [e]; exact List.mem_cons_self))]
    exact wipe_out is fun z => h (List.mem_cons_of_mem _ z)
theorem wipe_len : ∀ is : List Nat, (wipe ρ is).length = ρ.length
  | [] => rfl
  | i :: is => by
    show ((wipe ρ is).set i none).length = _
    rw [List.length_set, wipe_len is]
/-- back from a block: what stood at its names stands again -/
theorem SR.unwipe {T : Addr → Prop} {is : List Nat} (r : SR K T ra ρ (L2.wipe σ is) H) (r0 : SR K S ra ρ1 σ H1) (hn : noneOwned ρ1 is = true) (s : Same (Pub S ρ1 σ H1) (Pub T ρ (L2.wipe σ is) H)) :
    SR K T ra (unwipe ρ1 ρ is) σ H ∧ ∀ b, own (unwipe ρ1 ρ is) σ b ↔ own ρ (L2.wipe σ is) b := by
  have hlen : ρ.length = σ.length := by rw [r.len, L2.wipe_length]
  have hlen1 : ρ1.length = σ.length := r0.len
  have hfz : ∀ i, i ∈ is → getf ρ1 i = .fz := fun i hi => of_decide_eq_true (List.all_eq_true.mp hn i hi)
  have inn : ∀ (j : Nat) (d : PV) (f : Fg), (Fh.unwipe ρ1 ρ is)[j]? = some (some (d, f)) → j ∈ is → f = .fz ∧ ρ1[j]? = some (some (d, .fz)) := fun j d f e hj => by
    have hl := lt_of_get e
    rw [unwipe_length] at hl
    rw [unwipe_in is hj hl] at e
    have e := Option.some.inj e
    have hl1 : j < ρ1.length := by omega
    rw [List.getD_eq_getElem?_getD, List.getElem?_eq_getElem hl1] at e
    have e : ρ1[j] = some (d, f) := e
    have e2 : ρ1[j]? = some (some (d, f)) := by rw [List.getElem?_eq_getElem hl1, e]
    have := hfz j hj
    unfold getf at this
    rw [e2] at this
    have this : f = .fz := this
    subst this
    exact ⟨rfl, e2⟩
  have oi : ∀ b, own (Fh.unwipe ρ1 ρ is) σ b ↔ own ρ (L2.wipe σ is) b := fun b => by
    constructor
    · rintro ⟨j, d, f, e, n, es⟩
      by_cases hj : j ∈ is
      · exact absurd (inn j d f e hj).1 n
      · rw [unwipe_out is hj] at e
        exact ⟨j, d, f, e, n, by rw [l2wipe_out is hj]; exact es⟩
    · rintro ⟨j, d, f, e, n, es⟩
      obtain ⟨es, hj⟩ := L2.wipe_some es
      exact ⟨j, d, f, by rw [unwipe_out is hj]; exact e, n, es⟩
  have pe : Pub T (Fh.unwipe ρ1 ρ is) σ H = Pub T ρ (L2.wipe σ is) H := hid_congr fun b => or_congr Iff.rfl (oi b)
  refine ⟨⟨by rw [unwipe_length]; exact hlen, fun j d e => ?_, fun j d f e n => ?_, fun j k x d f d' f' e n e' n' es es' => ?_, r.tr⟩, oi⟩
  · rw [pe]
    by_cases hj : j ∈ is
    · obtain ⟨_, e1⟩ := inn j d _ e hj
      obtain ⟨v, h1, h2⟩ := r0.fz j d e1
      exact ⟨v, h1, h2.mono s⟩
    · rw [unwipe_out is hj] at e
      obtain ⟨v, h1, h2⟩ := r.fz j d e
      rw [l2wipe_out is hj] at h1
      exact ⟨v, h1, h2⟩
  · rw [pe]
    by_cases hj : j ∈ is
    · exact absurd (inn j d f e hj).1 n
    · rw [unwipe_out is hj] at e
      obtain ⟨x, h1, h2, h3, h4⟩ := r.ow j d f e n
      rw [l2wipe_out is hj] at h1
      exact ⟨x, h1, h2, h3, h4⟩
  · by_cases hj : j ∈ is
    · exact absurd (inn j d f e hj).1 n
    · by_cases hk : k ∈ is
      · exact absurd (inn k d' f' e' hk).1 n'
      · rw [unwipe_out is hj] at e
        rw [unwipe_out is hk] at e'
        exact r.inj j k x d f d' f' e n e' n' (by rw [l2wipe_out is hj]; exact es) (by rw [l2wipe_out is hk]; exact es')
/-! ### targets -/
/-- what stands behind a store at some names -/
def Sto (K : PySem.W.Frag) (S : Addr → Prop) (ra : Option Addr) (ρ : Env) (σ : L2.St) (H : Hp) (ns : List Nat) (ρ' : Env) (σ' : L2.St) : Prop := SR K S ra ρ' σ' H ∧ Same (Pub S ρ σ H) (Pub S ρ' σ' H) ∧ σ'.length = σ.length ∧ ∀ j, j ∉ ns → σ'[j]? = σ[j]?
def TGt (K : PySem.W.Frag) (t : Tg) : TG := fun v σ H Q => ∃ S ra ρ d ρ', SR K S ra ρ σ H ∧ asgT t d .fz ρ = .ok ρ' ∧ Rep K (Pub S ρ σ H) v d ∧ ∀ σ', Sto K S ra ρ σ H (tnames t) ρ' σ' → Q σ' H
def TGts (K : PySem.W.Frag) (ts : Tgs) : TGs := fun vs σ H Q => ∃ S ra ρ ds ρ', SR K S ra ρ σ H ∧ asgTs ts ds ρ = .ok ρ' ∧ RepAll K (Pub S ρ σ H) vs ds ∧ ∀ σ', Sto K S ra ρ σ H (tsnames ts) ρ' σ' → Q σ' H
theorem _root_.L2.PG.weak {X : Cx} {e : Expr} {t t' : TG} (h : PG X e t) (w : ∀ v σ H Q, t' v σ H Q → t v σ H Q) : PG X e t' := ⟨fun pins s σ H v u Q I r q => h.run pins s σ H v u Q I r (w v σ H Q q)⟩
theorem _root_.L2.PGs.weak {X : Cx} {e : List Expr} {t t' : TGs} (h : PGs X e t) (w : ∀ v σ H Q, t' v σ H Q → t v σ H Q) : PGs X e t' := ⟨fun pins s σ H v u Q I r q => h.run pins s σ H v u Q I r (w v σ H Q q)⟩
theorem asgE {e : Expr} {es : List Expr} {env : PySem.Env} (h : okX e = true) : assignEach (e :: es) env = (false, assign e env) :: assignEach es env := by
  cases e <;> first | rfl | cases h
mutual
theorem tg_ok : ∀ (t : Tg) {e : Expr} {sc : Scope} {N : List Str} {X : Cx} {fb : Str → Bool}, chkG N sc fb t e = true → X.N = N → X.N.Nodup → X.calm = true → X.env.scope = sc → (∀ x, fb x = true → X.fn x = true) → PG X e (TGt X.K t)
  | .v i, e, sc, N, X, fb, h, hN, nd, hc, hs, hf => by
    unfold chkG at h
    split at h
    · rename_i x pos
      simp only [Bool.and_eq_true, Bool.or_eq_true, decide_eq_true_eq] at h
      obtain ⟨h1, h2⟩ := h
      subst hN hs
      have hl : Loc X.env.scope x := h2.elim .inl fun z => .inr z.1
      have hf2 : X.fn x = true ∨ X.env.scope.names.lookup x = some .local := h2.elim .inr fun z => .inl (hf x z.2)
      refine (pg_name nd h1 hl hf2).weak fun v σ H Q ⟨S, ra, ρ, d, ρ', r, e, hr, q⟩ => ?_
      obtain ⟨c, e⟩ := ite_ok (show (if i < ρ.length then R.ok (ρ.set i (some (d, .fz))) else .st) = .ok ρ' from e)
      cases e
      obtain ⟨r1, s1⟩ := r.setz c hr
      exact q _ ⟨r1, s1, List.length_set, fun j hj => List.getElem?_set_ne fun e => hj (by rw [e]; exact List.mem_singleton_self _)⟩
    · cases h
  | .t ts, e, sc, N, X, fb, h, hN, nd, hc, hs, hf => by
    unfold chkG at h
    split at h
    · rename_i es kk pos
      obtain ⟨h1, h2, h3, h4⟩ := tgs_ok ts h hN nd hc hs hf
      refine (pg_tup hc h1 h2 h3).weak fun v σ H Q ⟨S, ra, ρ, d, ρ', r, e, hr, q⟩ => ?_
      cases d with
      | tuple ds =>
        cases hr with
        | tup hq rq => exact ⟨_, _, rfl, sqT_mono pub_same hq, by rw [rq.length]; exact h4 ds ρ ρ' e, S, ra, ρ, ds, ρ', r, e, rq, q⟩
      | _ => cases e
    · cases h
theorem tgs_ok : ∀ (ts : Tgs) {es : List Expr} {sc : Scope} {N : List Str} {X : Cx} {fb : Str → Bool}, chkGs N sc fb ts es = true → X.N = N → X.N.Nodup → X.calm = true → X.env.scope = sc → (∀ x, fb x = true → X.fn x = true) →
    PGs X es (TGts X.K ts) ∧ (assignEach es X.env).length = es.length ∧ (assignEach es X.env).findIdx? (·.1) = none ∧ ∀ ds ρ ρ', asgTs ts ds ρ = .ok ρ' → ds.length = es.length
  | .nil, [], sc, N, X, fb, h, hN, nd, hc, hs, hf => by
    refine ⟨pgs_nil.weak fun vs σ H Q ⟨S, ra, ρ, ds, ρ', r, e, hr, q⟩ => ?_, rfl, rfl, fun ds ρ ρ' e => ?_⟩
    · cases hr with
      | nil =>
        cases e
        exact ⟨rfl, q σ ⟨r, fun _ _ h => h, rfl, fun _ _ => rfl⟩⟩
      | cons _ _ => cases e
    · cases ds with
      | nil => rfl
      | cons _ _ => cases e
  | .cons t ts, e :: es, sc, N, X, fb, h, hN, nd, hc, hs, hf => by
    unfold chkGs at h
    simp only [Bool.and_eq_true] at h
    obtain ⟨⟨h1, h2⟩, h3⟩ := h
    have p1 := tg_ok t h2 hN nd hc hs hf
    obtain ⟨p2, l2, f2, n2⟩ := tgs_ok ts h3 hN nd hc hs hf
    have ea := asgE (es := es) (env := X.env) h1
    refine ⟨(pgs_cons p1 p2 (by rw [ea]; rfl)).weak fun vs σ H Q ⟨S, ra, ρ, ds, ρ', r, e, hr, q⟩ => ?_, by rw [ea, List.length_cons, l2, List.length_cons], by rw [ea]; simp [List.findIdx?_cons, f2], fun ds ρ ρ' e => ?_⟩
    · cases hr with
      | nil => cases e
      | @cons v vs d ds hd hds =>
        obtain ⟨ρ1, e1, e2⟩ := bind_ok (show ((asgT t d .fz ρ).bind fun ρ1 => asgTs ts ds ρ1) = .ok ρ' from e)
        refine ⟨v, vs, rfl, S, ra, ρ, d, ρ1, r, e1, hd, fun σ1 ⟨r1, s1, l1, o1⟩ => ⟨S, ra, ρ1, ds, ρ', r1, e2, hds.mono s1, fun σ2 ⟨r2, s2, l2, o2⟩ => q σ2 ⟨r2, s1.trans s2, l2.trans l1, fun j hj => ?_⟩⟩⟩
        have hj : j ∉ tnames t ++ tsnames ts := hj
        rw [List.mem_append] at hj
        exact (o2 j fun z => hj (.inr z)).trans (o1 j fun z => hj (.inl z))
    · cases ds with
      | nil => cases e
      | cons d ds =>
        obtain ⟨ρ1, e1, e2⟩ := bind_ok (show ((asgT t d .fz ρ).bind fun ρ1 => asgTs ts ds ρ1) = .ok ρ' from e)
        rw [List.length_cons, n2 ds ρ1 ρ' e2, List.length_cons]
  | .nil, _ :: _, sc, N, X, fb, h, _, _, _, _, _ => by unfold chkGs at h; cases h
  | .cons _ _, [], sc, N, X, fb, h, _, _, _, _, _ => by unfold chkGs at h; cases h
end
end
end Fh

set_option maxHeartbeats 2000000
/-! Fh: enumerate(tuple). -/
namespace Fh
open PySem PySem.Spec PyProof.Rows L2
def IteT (K : PySem.W.Frag) (a : Addr) : It where
  go i H := ∃ (xs : List V) (x : V), SqT K H a xs ∧ xs[i]? = some x
  yld i H v H' := ∃ T x, v = .ref T ∧ H T = none ∧ H' = upd H T (.tup [.int (i : Nat), x]) ∧ ∀ xs, SqT K H a xs → xs[i]? = some x
  stop i H := ∃ xs : List V, SqT K H a xs ∧ xs.length = i
theorem walk_enumT {K : PySem.W.Frag} {a : Addr} {xs : List V} : Walk (IteT K a) xs.length (fun H => SqT K H a xs) (YPair (fun i => some (.int (i : Nat))) (fun i => xs[i]?)) := by
  refine ⟨fun i _ hi q => ⟨xs, xs[i], q, by simp [hi]⟩, fun _ q => ⟨xs, q, rfl⟩, fun i H v H' _ q y => ?_⟩
  obtain ⟨T, x, h1, h2, h3, h4⟩ := y
  exact ⟨T, .int (i : Nat), x, h1, h2, h3, rfl, h4 xs q⟩
theorem turn_enumT {P : Program} {w : World} {K : PySem.W.Frag} {elts : List Expr} {kk : Nat} {tpos : Pos} (a e it : Addr) :
    Turn P w K (.Tuple elts kk tpos) (IteT K a) [e, it] e (fun i h => (∃ old, IsEnum h e it ((i : Nat) : Int) old) ∧ h.IsTupleIter it a i ∧ e ≠ it ∧ e ≠ a ∧ a ≠ it) where
  mem := by simp
  obj := fun i h st b hb => by
    obtain ⟨⟨old, he⟩, ⟨o, ho, hc, hd⟩, _⟩ := st
    rcases (show b = e ∨ b = it by simpa using hb) with rfl | rfl
    · exact ⟨_, he, fun v q => nomatch q⟩
    · exact ⟨o, ho, fun v q => by rw [hd] at q; cases q⟩
  keep := fun i h h' st k => by
    obtain ⟨⟨old, he⟩, hi, r⟩ := st
    exact ⟨⟨old, k e (by simp) _ he⟩, hi.at fun o q => k it (by simp) o q, r⟩
  item := by
    intro X hP hw hK hc i pins s σ H E I hf st hg
    subst hP hw hK
    obtain ⟨⟨old, he⟩, hit, hne, hea, hai⟩ := st
    obtain ⟨xs, x, hq, hx⟩ := hg
    obtain ⟨its, rv, p, hz⟩ := I.tuple hq
    obtain ⟨u, hu, ru⟩ := rv.get hx
    have hu2 : its.toArray[i]? = some u := by simpa using hu
    have hlt : i < its.toArray.size := by
      have := (List.getElem?_eq_some_iff.mp hu).1
      simpa using this
    have hel : e < s.heap.objs.size := Heap.lt_size he
    have hil : it < s.heap.objs.size := by obtain ⟨_, q, _⟩ := hit; exact Heap.lt_size q
    have D := Draws.tuple (prog := X.prog) (w := X.w) (A := X.A.in1) (I.ok.hd hc) it a hai its.toArray
    refine wpAny_pyNext_enum_itemC D he ⟨hit, show s.heap.IsTuple a its.toArray from p⟩ hlt hne (by simp [hne, hea]) fun y h' tk py ho hs' hT hsz hk => ?_
    rw [hu2] at py
    cases py
    refine ⟨_, rfl, wpAny_letOwnedTupleGo_enum (s := { s with heap := h', toks := tk + 1 }) ho fun h'' he' sb => ?_⟩
    have hT2 : h''.get? s.heap.objs.size = some { cls := .type "tuple", data := .seq #[.int i tk, u] } := (sb.2 _ (Nat.ne_of_gt hel)).trans hT
    have I1 : Inv X pins σ (upd H s.heap.objs.size (.tup [.int (i : Nat), x])) { s with heap := h'', toks := tk + 1 } :=
      I.turnedNew (t' := tk + 1) (ch := [e, it]) (fun b ob hb q => (sb.2 b (fun z => hb (by simp [z]))).trans (hk b ob (fun z => hb (by simp [z])) (fun z => hb (by simp [z])) q)) hf (Nat.le_refl _)
        (show ObjOk X.prog X.w (upd H s.heap.objs.size (.tup [.int (i : Nat), x])) h'' s.heap.objs.size (.tup [.int (i : Nat), x]) from ⟨by show 2 ≤ sizeLine; decide, [.int i tk, u], .cons ⟨_, rfl⟩ (.cons ru .nil), ⟨_, hT2, rfl, _, rfl⟩⟩)
    refine ⟨.ref s.heap.objs.size, _, I1, rfl, ⟨_, x, rfl, I.hok.fresh (Nat.le_refl _), rfl, fun ys hy => by rw [I.tuple_inj hy hq]; exact hx⟩, ⟨⟨u, ?_⟩, hs'.1.at fun o q => (sb.2 it (Ne.symm hne)).trans q, hne, hea, hai⟩, fun b hb => ?_⟩
    · rw [show ((i + 1 : Nat) : Int) = (i : Int) + 1 by omega]
      exact he'
    · have hb' : b < s.heap.objs.size := by
        rcases (show b = e ∨ b = it by simpa using hb) with rfl | rfl
        · exact hel
        · exact hil
      rw [upd_ne (Nat.ne_of_lt hb')]
      exact (hf b hb).1
  done := by
    intro X hP hw hK hc i pins s σ H E I hf st hg
    subst hP hw hK
    obtain ⟨⟨old, he⟩, hit, hne, hea, hai⟩ := st
    obtain ⟨xs, hq, hx⟩ := hg
    obtain ⟨its, rv, p, hz⟩ := I.tuple hq
    have hl := rv.length
    have D := Draws.tuple (prog := X.prog) (w := X.w) (A := X.A.in1) (I.ok.hd hc) it a hai its.toArray
    obtain ⟨f0, f1, f2, f3, f4, f5⟩ := hf it (by simp)
    have hn : its.toArray.size = i := by rw [List.size_toArray, ← hl]; exact hx
    refine wpAny_pyNext_enum_endD D he ⟨by rw [hn]; exact hit, show s.heap.IsTuple a its.toArray from p⟩ fun h' eb => ⟨rfl, I.turned (t' := s.toks) (fun b o hb q => eb b o hb q) f0 f1 f3 f4 f5⟩
  self := fun A i s Q E st h => by
    obtain ⟨⟨_, he⟩, _⟩ := st
    exact wpAny_pyIter_enum he h
theorem enum_new1 {v : Value} {o : Obj} {Hs : Heap → Prop} (B : Begins v o Hs) :
    Meets (Builtin.«enumerate.__new__» ⟨[.type "enumerate", v], []⟩) (fun _ R s => Hs s.heap ∧
      R (.ok (.ret (.ref (s.heap.push o).objs.size))) { s with heap := (s.heap.push o).push { cls := .type "enumerate", data := .fields #[.none, .bool false, .ref s.heap.objs.size, rawInt 0, .none, .none] } }) :=
  .of_wp fun prog w A R s h => by
    obtain ⟨hp, g, d, tk, os⟩ := s
    obtain ⟨h1, h⟩ := h
    have hsub := sub_enumerate
    have q1 : ∀ {A' : Around} {E : Value → Shared → Prop} {Q : Value → Shared → Prop}, Q (.ref hp.objs.size) ⟨hp.push o, g, d, tk, os⟩ → wpAny (model prog w) A' (pyIter v) Q E ⟨hp, g, d, tk, os⟩ :=
      fun q => B.iter prog w _ _ ⟨hp, g, d, tk, os⟩ _ h1 q
    wp_walk using q1
    refine wpAny_stack_any fun st => wpAny_pure ?_
    split
    · rename_i c _ _ _ _ _
      cases (c == Value.type "enumerate") <;> (wp_walk using q1; exact ⟨_, rfl, h⟩)
    · wp_walk using q1
      exact ⟨_, rfl, h⟩
def iEnumA (K : PySem.W.Frag) (ta : TA) : TI := fun σ H R => ta σ H fun vs H1 => ∃ a xs, vs = [.ref a] ∧ ((SqL K H1 a xs ∧ R (Ite K a) H1) ∨ (SqT K H1 a xs ∧ R (IteT K a) H1))
theorem pi_enumA {X : Cx} {e : Expr} {ta : TA} {p pos tpos : Pos} {elts : List Expr} {kk : Nat} (hg : Gl X "enumerate") (hm : X.mg "enumerate" = none) (ha : PA X [e] ta) (hs : starEach [e] X.env = [(false, eval e X.env)]) :
    PI X (.Tuple elts kk tpos) (.Call (.Name "enumerate" p) [e] [] pos) (iEnumA X.K ta) := by
  refine ⟨fun pins s σ H R I h => ?_⟩
  refine Call_ (ld_blt I hg hm boot_enumerate (PyProof.Rows.callWith_type1 (thn (ha.run pos pins s σ H _ I h) fun us s1 ⟨vs, H1, I1, r1, q1⟩ => ?_) hs rfl))
  obtain ⟨a, xs, ex, hq⟩ := q1
  subst ex
  cases r1 with
  | cons r rr =>
    cases rr
    cases r
    rcases hq with ⟨hq, q⟩ | ⟨hq, q⟩
    · obtain ⟨its, rv, pl, hz⟩ := I1.list hq
      refine call_enumerate_list pl.isList fun g he hit hsz hk => wpAny_pyIter_enum he ⟨s1.heap.objs.size + 1, [s1.heap.objs.size + 1, s1.heap.objs.size], _, _, H1, rfl, I1.kept (t' := s1.toks) hk, turn_enum a (s1.heap.objs.size + 1) s1.heap.objs.size, ⟨⟨.none, he⟩, hit, Nat.succ_ne_self _⟩, fun b hb => ?_, q⟩
      have hle : s1.heap.objs.size ≤ b := by
        rcases (show b = s1.heap.objs.size + 1 ∨ b = s1.heap.objs.size by simpa using hb) with rfl | rfl
        · exact Nat.le_succ _
        · exact Nat.le_refl _
      exact I1.fpOk hle (I1.hok.fresh hle)
    obtain ⟨its, rv, p', hz⟩ := I1.tuple hq
    have hal : a < s1.heap.objs.size := by
      obtain ⟨o, e, _⟩ := (show s1.heap.IsTuple a its.toArray from p')
      exact Heap.lt_size e
    have z1 : (s1.heap.push { cls := .type "tuple_iterator", data := .fields #[.ref a, .int 0 0] }).objs.size = s1.heap.objs.size + 1 := Heap.size_push ..
    refine callType_new F.called_enumerate (by decide) (F.typeCall_enumerate_1 _) (F.newCall_enumerate_1 _) (fun obj => F.args_object_init_2 obj _) F.entry_enumerate_new (enum_new1 (begins_tuple a its.toArray)) ⟨show s1.heap.IsTuple a its.toArray from p', ?_⟩
    show _ ∧ _
    rw [z1]
    have he : IsEnum ((s1.heap.push { cls := .type "tuple_iterator", data := .fields #[.ref a, .int 0 0] }).push { cls := .type "enumerate", data := .fields #[.none, .bool false, .ref s1.heap.objs.size, rawInt 0, .none, .none] }) (s1.heap.objs.size + 1) s1.heap.objs.size 0 .none := by
      have q := Heap.get?_push_size (s1.heap.push { cls := .type "tuple_iterator", data := .fields #[.ref a, .int 0 0] }) (o := { cls := .type "enumerate", data := .fields #[.none, .bool false, .ref s1.heap.objs.size, rawInt 0, .none, .none] }) rfl
      rw [z1] at q
      exact q
    refine ⟨⟨_, he, rfl⟩, wpAny_pyIter_enum he ?_⟩
    have I2 : Inv X pins σ H1 { s1 with heap := (s1.heap.push { cls := .type "tuple_iterator", data := .fields #[.ref a, .int 0 0] }).push { cls := .type "enumerate", data := .fields #[.none, .bool false, .ref s1.heap.objs.size, rawInt 0, .none, .none] } } := I1.kept (t' := s1.toks) fun b o x => Heap.get?_push_of_some _ (Heap.get?_push_of_some _ x)
    refine ⟨s1.heap.objs.size + 1, [s1.heap.objs.size + 1, s1.heap.objs.size], _, _, H1, rfl, I2, turn_enumT a (s1.heap.objs.size + 1) s1.heap.objs.size, ⟨⟨.none, he⟩, ⟨_, Heap.get?_push_of_some _ (Heap.get?_push_size _ rfl), rfl, rfl⟩, Nat.succ_ne_self _, Nat.ne_of_gt (Nat.lt_succ_of_lt hal), Nat.ne_of_lt hal⟩, fun b hb => ?_, q⟩
    have hle : s1.heap.objs.size ≤ b := by
      rcases (show b = s1.heap.objs.size + 1 ∨ b = s1.heap.objs.size by simpa using hb) with rfl | rfl
      · exact Nat.le_succ _
      · exact Nat.le_refl _
    exact I1.fpOk hle (I1.hok.fresh hle)
end Fh

set_option maxHeartbeats 2000000
/-! Fh: what loops go over; comprehensions. -/
namespace Fh
open PySem PySem.Spec PyProof.Rows L2
section
variable {refs : Refs} {call : Calls} {K : PySem.W.Frag} {A0 : Hp}
theorem ctx_self (X : Cx) : True := trivial
theorem goes_list {a : Addr} {vs : List V} {xs : List PyData} (h : SqL K A0 a vs) (r : RepAll K A0 vs xs) : Goes K A0 xs (Itl K a) :=
  ⟨fun H => SqL K H a vs, YAt vs, by rw [← r.length]; exact walk_list, fun H s => sqL_mono s h, fun i H x H' d s e y => by
    obtain ⟨e1, e2⟩ := y
    obtain ⟨v, h1, h2⟩ := r.get e
    rw [e2] at h1
    cases h1
    exact .inl ⟨e1, h2⟩⟩
theorem goes_tup {a : Addr} {vs : List V} {xs : List PyData} (h : SqT K A0 a vs) (r : RepAll K A0 vs xs) : Goes K A0 xs (Itt K a) :=
  ⟨fun H => SqT K H a vs, YAt vs, by rw [← r.length]; exact walk_tup, fun H s => sqT_mono s h, fun i H x H' d s e y => by
    obtain ⟨e1, e2⟩ := y
    obtain ⟨v, h1, h2⟩ := r.get e
    rw [e2] at h1
    cases h1
    exact .inl ⟨e1, h2⟩⟩
theorem goes_rng {lo : Int} {n : Nat} : Goes K A0 (upTo lo n) (Itr lo n) :=
  ⟨fun _ => True, YFn fun i => .int (lo + i), by unfold upTo; rw [List.length_map, List.length_range]; exact walk_range, fun H _ => trivial, fun i H x H' d s e y => by
    obtain ⟨e1, e2⟩ := y
    unfold upTo at e
    rw [List.getElem?_map] at e
    cases h : (List.range n)[i]? with
    | none => rw [h] at e; cases e
    | some j =>
      rw [h] at e
      have hj : j = i := by
        obtain ⟨h1, h2⟩ := List.getElem?_eq_some_iff.mp h
        rw [List.getElem_range] at h2
        exact h2.symm
      subst hj e2
      have e := Option.some.inj e
      have e : PyData.int (lo + (j : Int)) = d := e
      subst e
      exact .inl ⟨e1, .int _⟩⟩
theorem goes_pair {J : It} {n : Nat} {G : Hp → Prop} {f g : Nat → Option V} {xs : List PyData} (w : Walk J n G (YPair f g)) (hn : xs.length = n) (hG : ∀ H, Same A0 H → G H)
    (h : ∀ (i : Nat) (d : PyData) (x y : V), xs[i]? = some d → f i = some x → g i = some y → ∃ dx dy, d = .tuple [dx, dy] ∧ Rep K A0 x dx ∧ Rep K A0 y dy) : Goes K A0 xs J :=
  ⟨G, YPair f g, by rw [hn]; exact w, hG, fun i H x H' d s e y => by
    obtain ⟨p, u, v, e1, e2, e3, e4, e5⟩ := y
    obtain ⟨dx, dy, rfl, h1, h2⟩ := h i d u v e e4 e5
    exact .inr ⟨p, [u, v], [dx, dy], e2, e1, e3, rfl, .cons h1 (.cons h2 .nil)⟩⟩
theorem zip_get {xs ys : List PyData} {i : Nat} {d : PyData} (e : ((xs.zip ys).map fun p => PyData.tuple [p.1, p.2])[i]? = some d) : ∃ dx dy, xs[i]? = some dx ∧ ys[i]? = some dy ∧ d = .tuple [dx, dy] := by
  rw [List.getElem?_map] at e
  cases h : (xs.zip ys)[i]? with
  | none => rw [h] at e; cases e
  | some p =>
    rw [h] at e
    obtain ⟨h1, h2⟩ := List.getElem?_zip_eq_some.mp h
    exact ⟨p.1, p.2, h1, h2, (Option.some.inj e).symm⟩
theorem zip_pairs {vs ws : List V} {xs ys : List PyData} (r1 : RepAll K A0 vs xs) (r2 : RepAll K A0 ws ys) : ∀ (i : Nat) (d : PyData) (x y : V), ((xs.zip ys).map fun p => PyData.tuple [p.1, p.2])[i]? = some d → vs[i]? = some x → ws[i]? = some y → ∃ dx dy, d = .tuple [dx, dy] ∧ Rep K A0 x dx ∧ Rep K A0 y dy := fun i d x y e h1 h2 => by
  obtain ⟨dx, dy, e1, e2, e3⟩ := zip_get e
  obtain ⟨v, g1, g2⟩ := r1.get e1
  obtain ⟨w, g3, g4⟩ := r2.get e2
  rw [h1] at g1
  rw [h2] at g3
  cases g1
  cases g3
  exact ⟨dx, dy, e3, g2, g4⟩
theorem walk_zipT {a b : Addr} {xs ys : List V} {n : Nat} (hn : n = min xs.length ys.length) : Walk (RZ.ItzT K a b) n (fun H => SqT K H a xs ∧ SqT K H b ys) (YPair (fun i => xs[i]?) (fun i => ys[i]?)) := by
  subst hn
  refine ⟨fun i _ hi q => ?_, fun _ q => ⟨xs, ys, q.1, q.2, by omega⟩, fun i H v H' _ q y => ?_⟩
  · have h1 : i < xs.length := by omega
    have h2 : i < ys.length := by omega
    exact ⟨xs, ys, xs[i], ys[i], q.1, q.2, by simp [h1], by simp [h2]⟩
  · obtain ⟨T, x, z, h1, h2, h3, h4, h5⟩ := y
    exact ⟨T, x, z, h1, h2, h3, h4 xs q.1, h5 ys q.2⟩
theorem goes_zipL {a b : Addr} {vs ws : List V} {xs ys : List PyData} (h1 : SqL K A0 a vs) (r1 : RepAll K A0 vs xs) (h2 : SqL K A0 b ws) (r2 : RepAll K A0 ws ys) : Goes K A0 ((xs.zip ys).map fun p => PyData.tuple [p.1, p.2]) (Itz K a b) :=
  goes_pair (walk_zip rfl) (by rw [List.length_map, List.length_zip, r1.length, r2.length]) (fun H s => ⟨sqL_mono s h1, sqL_mono s h2⟩) (zip_pairs r1 r2)
theorem goes_zipT {a b : Addr} {vs ws : List V} {xs ys : List PyData} (h1 : SqT K A0 a vs) (r1 : RepAll K A0 vs xs) (h2 : SqT K A0 b ws) (r2 : RepAll K A0 ws ys) : Goes K A0 ((xs.zip ys).map fun p => PyData.tuple [p.1, p.2]) (RZ.ItzT K a b) :=
  goes_pair (walk_zipT rfl) (by rw [List.length_map, List.length_zip, r1.length, r2.length]) (fun H s => ⟨sqT_mono s h1, sqT_mono s h2⟩) (zip_pairs r1 r2)
theorem goes_enm {a : Addr} {vs : List V} {xs : List PyData} (h1 : SqL K A0 a vs) (r1 : RepAll K A0 vs xs) : Goes K A0 (xs.zipIdx.map fun p => PyData.tuple [.int p.2, p.1]) (Ite K a) :=
  goes_pair walk_enum (by rw [List.length_map, List.length_zipIdx, r1.length]) (fun H s => sqL_mono s h1) fun i d x y e f1 f2 => by
    rw [List.getElem?_map, List.getElem?_zipIdx] at e
    cases h : xs[i]? with
    | none => rw [h] at e; cases e
    | some dx =>
      rw [h] at e
      have e := (Option.some.inj e).symm
      obtain ⟨v, g1, g2⟩ := r1.get h
      have f2 : vs[i]? = some y := f2
      rw [f2] at g1
      cases g1
      have f1 : some (V.int (i : Nat)) = some x := f1
      cases f1
      refine ⟨.int i, dx, ?_, .int _, g2⟩
      rw [e]
      simp
/-! ### iterators -/
theorem evL_one {a : Ex} {ρ ρ' : Env} {ds : List PV} (e : evL refs call (.cons a .nil) ρ = .ok (ds, ρ')) : ∃ x f, ds = [x] ∧ evE refs call a ρ = .ok (x, f, ρ') := by
  obtain ⟨⟨x, fx, ρ1⟩, e1, e⟩ := bind_ok (show ((evE refs call a ρ).bind fun (x, _, ρ1) => (R.ok ([], ρ1) : R (List PV × Env)).bind fun (xs, ρ2) => R.ok (x :: xs, ρ2)) = .ok (ds, ρ') from e)
  cases e
  exact ⟨x, fx, rfl, e1⟩
theorem it_seq {X : Cx} {tg f : Expr} {a : Ex} (hE : PE X f (TEv X.K refs call a)) : PI X tg f (TIt X.K refs call .seq (.cons a .nil)) := by
  refine ⟨fun pins s σ H R I ⟨S, ra, ρ, ds, ρ', xs, r, e, ei, q⟩ => ?_⟩
  obtain ⟨x, fx, rfl, e1⟩ := evL_one e
  refine thn (hE.run pins s σ H (fun v H' => Aft X.K S ra ρ σ H ρ' H' ∧ Rep X.K (Pub S ρ' σ H') v x) I ⟨S, ra, ρ, x, fx, ρ', r, e1, fun v H' o => o.aft⟩) fun v s1 ⟨w, H1, I1, r1, af, rp⟩ => ?_
  cases rp with
  | @lst a vs xs' h rr =>
    cases ei
    cases r1
    have hq := sqL_mono (pub_same (S := S) (ρ := ρ') (σ := σ) (H := H1)) h
    obtain ⟨its, rv, p, hz⟩ := I1.list hq
    refine wpAny_pyIter_list p.isList ?_
    refine ⟨s1.heap.objs.size, [s1.heap.objs.size], _, _, H1, rfl, I1.kept (t' := s1.toks) fun b o e => Heap.get?_push_of_some _ e, turn_list a _, ⟨_, Heap.get?_push_size _ rfl, rfl, rfl⟩, fun b hb => ?_, q _ H1 af (goes_list h rr)⟩
    have e : b = s1.heap.objs.size := by simpa using hb
    subst e
    exact I1.fpOk (Nat.le_refl _) (I1.hok.fresh (Nat.le_refl _))
  | @tup a vs xs' h rr =>
    cases ei
    cases r1
    have hq := sqT_mono (pub_same (S := S) (ρ := ρ') (σ := σ) (H := H1)) h
    obtain ⟨its, rv, p, hz⟩ := I1.tuple hq
    refine wpAny_pyIter_tuple (show s1.heap.IsTuple a its.toArray from p) ?_
    refine ⟨s1.heap.objs.size, [s1.heap.objs.size], _, _, H1, rfl, I1.kept (t' := s1.toks) fun b o e => Heap.get?_push_of_some _ e, turn_tuple a _, ⟨_, Heap.get?_push_size _ rfl, rfl, rfl⟩, fun b hb => ?_, q _ H1 af (goes_tup h rr)⟩
    have e : b = s1.heap.objs.size := by simpa using hb
    subst e
    exact I1.fpOk (Nat.le_refl _) (I1.hok.fresh (Nat.le_refl _))
  | _ => cases ei
theorem rangeOk_ok {i : Int} (h : rangeOk i = true) : -(2 ^ 62) ≤ i ∧ i < 2 ^ 62 := by
  unfold rangeOk at h
  simp only [Bool.and_eq_true, decide_eq_true_eq] at h
  exact h
theorem items_rng {ds xs : List PyData} (h : items .rng ds = .ok xs) : (∃ j : Int, ds = [.int j] ∧ (rangeOk j = true ∧ j.toNat ≤ sizeLine) ∧ upTo 0 j.toNat = xs) ∨ ∃ i j : Int, ds = [.int i, .int j] ∧ (rangeOk i = true ∧ rangeOk j = true ∧ (j - i).toNat ≤ sizeLine) ∧ upTo i (j - i).toNat = xs := by
  cases ds with
  | nil => cases h
  | cons d1 ds =>
    cases ds with
    | nil =>
      cases d1 with
      | int j =>
        obtain ⟨c, e⟩ := ite_ok (show (if rangeOk j = true ∧ j.toNat ≤ sizeLine then R.ok (upTo 0 j.toNat) else .st) = .ok xs from h)
        exact .inl ⟨j, rfl, c, e⟩
      | _ => cases h
    | cons d2 ds =>
      cases ds with
      | nil =>
        cases d1 with
        | int i =>
          cases d2 with
          | int j =>
            obtain ⟨c, e⟩ := ite_ok (show (if rangeOk i = true ∧ rangeOk j = true ∧ (j - i).toNat ≤ sizeLine then R.ok (upTo i (j - i).toNat) else .st) = .ok xs from h)
            exact .inr ⟨i, j, rfl, c, e⟩
          | _ => cases h
        | _ => cases h
      | cons d3 ds =>
        cases d1 with
        | int i => cases d2 <;> cases h
        | _ => cases h
theorem items_zip {ds xs : List PyData} (h : items .zip ds = .ok xs) : (∃ ys zs, ds = [.list ys, .list zs] ∧ xs = (ys.zip zs).map fun p => PyData.tuple [p.1, p.2]) ∨ ∃ ys zs, ds = [.tuple ys, .tuple zs] ∧ xs = (ys.zip zs).map fun p => PyData.tuple [p.1, p.2] := by
  cases ds with
  | nil => cases h
  | cons d1 ds =>
    cases ds with
    | nil => cases d1 <;> cases h
    | cons d2 ds =>
      cases ds with
      | nil =>
        cases d1 with
        | list ys =>
          cases d2 with
          | list zs => cases h; exact .inl ⟨ys, zs, rfl, rfl⟩
          | _ => cases h
        | tuple ys =>
          cases d2 with
          | tuple zs => cases h; exact .inr ⟨ys, zs, rfl, rfl⟩
          | _ => cases h
        | _ => cases h
      | cons d3 ds =>
        cases d1 with
        | list ys => cases d2 <;> cases h
        | tuple ys => cases d2 <;> cases h
        | _ => cases h
theorem goes_enmT {a : Addr} {vs : List V} {xs : List PyData} (h1 : SqT K A0 a vs) (r1 : RepAll K A0 vs xs) : Goes K A0 (xs.zipIdx.map fun p => PyData.tuple [.int p.2, p.1]) (IteT K a) :=
  goes_pair walk_enumT (by rw [List.length_map, List.length_zipIdx, r1.length]) (fun H s => sqT_mono s h1) fun i d x y e f1 f2 => by
    rw [List.getElem?_map, List.getElem?_zipIdx] at e
    cases h : xs[i]? with
    | none => rw [h] at e; cases e
    | some dx =>
      rw [h] at e
      have e := (Option.some.inj e).symm
      obtain ⟨v, g1, g2⟩ := r1.get h
      have f2 : vs[i]? = some y := f2
      rw [f2] at g1
      cases g1
      have f1 : some (V.int (i : Nat)) = some x := f1
      cases f1
      refine ⟨.int i, dx, ?_, .int _, g2⟩
      rw [e]
      simp
theorem items_enm {ds xs : List PyData} (h : items .enm ds = .ok xs) : ∃ ys, (ds = [.list ys] ∨ ds = [.tuple ys]) ∧ xs = ys.zipIdx.map fun p => PyData.tuple [.int p.2, p.1] := by
  cases ds with
  | nil => cases h
  | cons d1 ds =>
    cases ds with
    | nil =>
      cases d1 with
      | list ys => cases h; exact ⟨ys, .inl rfl, rfl⟩
      | tuple ys => cases h; exact ⟨ys, .inr rfl, rfl⟩
      | _ => cases h
    | cons d2 ds =>
      cases d1 <;> cases h
theorem evL_len {C : Ck} {sc : Scope} : ∀ (src : Exs) {fs : List Expr} {ρ ρ' : Env} {ds : List PV}, chkL C sc src fs = true → evL refs call src ρ = .ok (ds, ρ') → ds.length = fs.length
  | .nil, fs, ρ, ρ', ds, h, e => by
    cases fs with
    | nil => cases e; rfl
    | cons _ _ => unfold chkL at h; cases h
  | .cons a as, fs, ρ, ρ', ds, h, e => by
    cases fs with
    | nil => unfold chkL at h; cases h
    | cons f fs =>
      unfold chkL at h
      simp only [Bool.and_eq_true] at h
      obtain ⟨⟨x, fx, ρ1⟩, e1, e⟩ := bind_ok (show ((evE refs call a ρ).bind fun (x, _, ρ1) => (evL refs call as ρ1).bind fun (xs, ρ2) => R.ok (x :: xs, ρ2)) = .ok (ds, ρ') from e)
      obtain ⟨⟨ys, ρ2⟩, e2, e⟩ := bind_ok e
      cases e
      exact congrArg (· + 1) (evL_len as h.2 e2)
theorem repInt {A : Hp} {v : V} {i : Int} (h : Rep K A v (.int i)) : v = .int i := by cases h; rfl
theorem chkL_ok {C : Ck} {sc : Scope} {src : Exs} {f : Expr} {fs : List Expr} (h : chkL C sc src (f :: fs) = true) : okX f = true ∧ ∃ as, chkL C sc as fs = true := by
  cases src with
  | nil => unfold chkL at h; cases h
  | cons a as =>
    unfold chkL at h
    simp only [Bool.and_eq_true] at h
    exact ⟨h.1.1, as, h.2⟩
theorem repLst {A : Hp} {v : V} {ds : List PyData} (h : Rep K A v (.list ds)) : ∃ a vs, v = V.ref a ∧ SqL K A a vs ∧ RepAll K A vs ds := by
  cases h with
  | lst h r => exact ⟨_, _, rfl, h, r⟩
theorem repTup {A : Hp} {v : V} {ds : List PyData} (h : Rep K A v (.tuple ds)) : ∃ a vs, v = V.ref a ∧ SqT K A a vs ∧ RepAll K A vs ds := by
  cases h with
  | tup h r => exact ⟨_, _, rfl, h, r⟩
theorem it_rng {C : Ck} {X : Cx} {tg g : Expr} {gs : List Expr} {p pos : Pos} {src : Exs} {sc : Scope} (hg : Gl X "range") (hm : X.mg "range" = none) (hL : PA X (g :: gs) (TLs X.K refs call src)) (hc : chkL C sc src (g :: gs) = true) : PI X tg (.Call (.Name "range" p) (g :: gs) [] pos) (TIt X.K refs call .rng src) := by
  obtain ⟨k1, as1, hc1⟩ := chkL_ok hc
  cases gs with
  | nil =>
    refine (pi_range1 hg hm hL (by rw [star_plain k1]; rfl)).weak fun σ H R ⟨S, ra, ρ, ds, ρ', xs, r, e, ei, q⟩ => ⟨S, ra, ρ, ds, ρ', r, e, fun vs H' af rp => ?_⟩
    have hl := evL_len src hc e
    rcases items_rng ei with ⟨j, rfl, c, rfl⟩ | ⟨i, j, rfl, c, rfl⟩
    · cases rp with
      | cons h1 h2 =>
        cases h2
        cases h1
        obtain ⟨b1, b2⟩ := rangeOk_ok c.1
        exact ⟨j, rfl, b1, b2, q _ H' af goes_rng⟩
    · cases hl
  | cons g2 gs =>
    obtain ⟨k2, as2, hc2⟩ := chkL_ok hc1
    cases gs with
    | nil =>
      refine (pi_range2 hg hm hL (by rw [star_plain k1, star_plain k2]; rfl) (by rw [star_plain k2]; rfl)).weak fun σ H R ⟨S, ra, ρ, ds, ρ', xs, r, e, ei, q⟩ => ⟨S, ra, ρ, ds, ρ', r, e, fun vs H' af rp => ?_⟩
      have hl := evL_len src hc e
      rcases items_rng ei with ⟨j, rfl, c, rfl⟩ | ⟨i, j, rfl, c, rfl⟩
      · cases hl
      · cases rp with
        | cons h1 h2 =>
          cases h2 with
          | cons h2 h3 =>
            cases h3
            cases h1
            cases h2
            obtain ⟨b1, b2⟩ := rangeOk_ok c.1
            obtain ⟨b3, b4⟩ := rangeOk_ok c.2.1
            exact ⟨i, j, rfl, ⟨b1, b2, b3, b4⟩, q _ H' af goes_rng⟩
    | cons g3 gs =>
      refine ⟨fun pins s σ H R I ⟨S, ra, ρ, ds, ρ', xs, r, e, ei, q⟩ => ?_⟩
      have hl := evL_len src hc e
      rcases items_rng ei with ⟨j, rfl, c, rfl⟩ | ⟨i, j, rfl, c, rfl⟩ <;> simp at hl
theorem it_zip {C : Ck} {X : Cx} {tg g : Expr} {gs : List Expr} {p pos : Pos} {src : Exs} {sc : Scope} (ht : isTup tg = true) (hg : Gl X "zip") (hm : X.mg "zip" = none) (hL : PA X (g :: gs) (TLs X.K refs call src)) (hc : chkL C sc src (g :: gs) = true) : PI X tg (.Call (.Name "zip" p) (g :: gs) [] pos) (TIt X.K refs call .zip src) := by
  obtain ⟨k1, as1, hc1⟩ := chkL_ok hc
  have bad : gs.length ≠ 1 → PI X tg (.Call (.Name "zip" p) (g :: gs) [] pos) (TIt X.K refs call .zip src) := fun n => by
    refine ⟨fun pins s σ H R I ⟨S, ra, ρ, ds, ρ', xs, r, e, ei, q⟩ => ?_⟩
    have hl := evL_len src hc e
    rcases items_zip ei with ⟨ys, zs, rfl, rfl⟩ | ⟨ys, zs, rfl, rfl⟩ <;> exact absurd (by simpa using hl.symm) n
  cases gs with
  | nil => exact bad (by simp)
  | cons g2 gs =>
    obtain ⟨k2, as2, hc2⟩ := chkL_ok hc1
    cases gs with
    | nil =>
      unfold isTup at ht
      split at ht
      · refine (RZ.pi_zipA hg hm hL (by rw [star_plain k1]) (by rw [star_plain k2]; rfl)).weak fun σ H R ⟨S, ra, ρ, ds, ρ', xs, r, e, ei, q⟩ => ⟨S, ra, ρ, ds, ρ', r, e, fun vs H' af rp => ?_⟩
        have pz : Same (Pub S ρ' σ H') H' := pub_same
        rcases items_zip ei with ⟨ys, zs, rfl, rfl⟩ | ⟨ys, zs, rfl, rfl⟩
        · cases rp with
          | cons h1 h2 =>
            cases h2 with
            | cons h2 h3 =>
              cases h3
              obtain ⟨a, xs, rfl, ha, ra⟩ := repLst h1
              obtain ⟨b, xs2, rfl, hb, rb⟩ := repLst h2
              exact ⟨a, b, xs, xs2, rfl, .inl ⟨sqL_mono pz ha, sqL_mono pz hb, q _ H' af (goes_zipL ha ra hb rb)⟩⟩
        · cases rp with
          | cons h1 h2 =>
            cases h2 with
            | cons h2 h3 =>
              cases h3
              obtain ⟨a, xs, rfl, ha, ra⟩ := repTup h1
              obtain ⟨b, xs2, rfl, hb, rb⟩ := repTup h2
              exact ⟨a, b, xs, xs2, rfl, .inr ⟨sqT_mono pz ha, sqT_mono pz hb, q _ H' af (goes_zipT ha ra hb rb)⟩⟩
      · cases ht
    | cons _ _ => exact bad (by simp)
theorem it_enm {C : Ck} {X : Cx} {tg g : Expr} {gs : List Expr} {p pos : Pos} {src : Exs} {sc : Scope} (ht : isTup tg = true) (hg : Gl X "enumerate") (hm : X.mg "enumerate" = none) (hL : PA X (g :: gs) (TLs X.K refs call src)) (hc : chkL C sc src (g :: gs) = true) : PI X tg (.Call (.Name "enumerate" p) (g :: gs) [] pos) (TIt X.K refs call .enm src) := by
  obtain ⟨k1, as1, hc1⟩ := chkL_ok hc
  cases gs with
  | cons g2 gs =>
    refine ⟨fun pins s σ H R I ⟨S, ra, ρ, ds, ρ', xs, r, e, ei, q⟩ => ?_⟩
    have hl := evL_len src hc e
    obtain ⟨ys, rfl | rfl, rfl⟩ := items_enm ei <;> simp at hl
  | nil =>
    unfold isTup at ht
    split at ht
    · refine (pi_enumA hg hm hL (by rw [star_plain k1]; rfl)).weak fun σ H R ⟨S, ra, ρ, ds, ρ', xs, r, e, ei, q⟩ => ⟨S, ra, ρ, ds, ρ', r, e, fun vs H' af rp => ?_⟩
      have pz : Same (Pub S ρ' σ H') H' := pub_same
      obtain ⟨ys, rfl | rfl, rfl⟩ := items_enm ei
      · cases rp with
        | cons h1 h2 =>
          cases h2
          obtain ⟨a, xs, rfl, ha, ra⟩ := repLst h1
          exact ⟨a, xs, rfl, .inl ⟨sqL_mono pz ha, q _ H' af (goes_enm ha ra)⟩⟩
      · cases rp with
        | cons h1 h2 =>
          cases h2
          obtain ⟨a, xs, rfl, ha, ra⟩ := repTup h1
          exact ⟨a, xs, rfl, .inr ⟨sqT_mono pz ha, q _ H' af (goes_enmT ha ra)⟩⟩
    · cases ht
theorem goes_rgd {hi : Int} {n : Nat} : Goes K A0 (downFrom hi n) (Itc hi (-1) n) :=
  ⟨fun _ => True, YFn fun i => .int (hi + (i : Nat) * (-1)), by unfold downFrom; rw [List.length_map, List.length_range]; exact walk_rangeC, fun H _ => trivial, fun i H x H' d s e y => by
    obtain ⟨e1, e2⟩ := y
    unfold downFrom at e
    rw [List.getElem?_map] at e
    cases h : (List.range n)[i]? with
    | none => rw [h] at e; cases e
    | some j =>
      rw [h] at e
      have hj : j = i := by
        obtain ⟨h1, h2⟩ := List.getElem?_eq_some_iff.mp h
        rw [List.getElem_range] at h2
        exact h2.symm
      subst hj e2
      have e := Option.some.inj e
      have e : PyData.int (hi + (j : Int) * (-1)) = d := e
      subst e
      exact .inl ⟨e1, .int _⟩⟩
theorem items_rgd {ds xs : List PyData} (h : items .rgd ds = .ok xs) : ∃ i j : Int, ds = [.int i, .int j, .int (-1)] ∧ (rangeOk i = true ∧ rangeOk j = true ∧ (i - j).toNat ≤ sizeLine) ∧ downFrom i (i - j).toNat = xs := by
  cases ds with
  | nil => cases h
  | cons d1 ds =>
    cases ds with
    | nil => cases d1 <;> cases h
    | cons d2 ds =>
      cases ds with
      | nil => cases d1 <;> cases d2 <;> cases h
      | cons d3 ds =>
        cases ds with
        | cons _ _ => cases d1 <;> cases d2 <;> cases d3 <;> cases h
        | nil =>
          cases d1 with
          | int i =>
            cases d2 with
            | int j =>
              cases d3 with
              | int k =>
                obtain ⟨⟨c0, c⟩, e⟩ := ite_ok (show (if k = -1 ∧ rangeOk i = true ∧ rangeOk j = true ∧ (i - j).toNat ≤ sizeLine then R.ok (downFrom i (i - j).toNat) else .st) = .ok xs from h)
                subst c0
                exact ⟨i, j, rfl, c, e⟩
              | _ => cases h
            | _ => cases h
          | _ => cases h
theorem it_rgd {C : Ck} {X : Cx} {tg g : Expr} {gs : List Expr} {p pos : Pos} {src : Exs} {sc : Scope} (hg : Gl X "range") (hm : X.mg "range" = none) (hL : PA X (g :: gs) (TLs X.K refs call src)) (hc : chkL C sc src (g :: gs) = true) : PI X tg (.Call (.Name "range" p) (g :: gs) [] pos) (TIt X.K refs call .rgd src) := by
  obtain ⟨k1, as1, hc1⟩ := chkL_ok hc
  have bad : gs.length ≠ 2 → PI X tg (.Call (.Name "range" p) (g :: gs) [] pos) (TIt X.K refs call .rgd src) := fun n => by
    refine ⟨fun pins s σ H R I ⟨S, ra, ρ, ds, ρ', xs, r, e, ei, q⟩ => ?_⟩
    have hl := evL_len src hc e
    obtain ⟨i, j, rfl, c, rfl⟩ := items_rgd ei
    exact absurd (by simpa using hl.symm) n
  cases gs with
  | nil => exact bad (by simp)
  | cons g2 gs =>
    obtain ⟨k2, as2, hc2⟩ := chkL_ok hc1
    cases gs with
    | nil => exact bad (by simp)
    | cons g3 gs =>
      obtain ⟨k3, as3, hc3⟩ := chkL_ok hc2
      cases gs with
      | cons _ _ => exact bad (by simp)
      | nil =>
        refine (pi_range3 hg hm hL (by rw [star_plain k1]) (by rw [star_plain k2, star_plain k3]; rfl)).weak fun σ H R ⟨S, ra, ρ, ds, ρ', xs, r, e, ei, q⟩ => ⟨S, ra, ρ, ds, ρ', r, e, fun vs H' af rp => ?_⟩
        obtain ⟨i, j, rfl, c, rfl⟩ := items_rgd ei
        cases rp with
        | cons h1 h2 =>
          cases h2 with
          | cons h2 h3 =>
            cases h3 with
            | cons h3 h4 =>
              cases h4
              cases h1
              cases h2
              cases h3
              obtain ⟨b1, b2⟩ := rangeOk_ok c.1
              obtain ⟨b3, b4⟩ := rangeOk_ok c.2.1
              exact ⟨i, j, -1, _, rfl, RgC.neg b1 b2 b3 b4, q _ H' af goes_rgd⟩
/-! ### a comprehension -/
def TCs (K : PySem.W.Frag) (refs : Refs) (call : Calls) (c : Exs) : TT := fun σ H Q => ∃ S ra ρ ρ' t, SR K S ra ρ σ H ∧ evC refs call c ρ = .ok (t, ρ') ∧ ∀ H', Aft K S ra ρ σ H ρ' H' → Q t H'
def stepC (refs : Refs) (call : Calls) (own : List (Str × Nat)) (t : Tg) (c : Exs) (m : Ex) (acc : List PV × Env) (x : PV) : R (List PV × Env) := (asgT t x .fz acc.2).bind fun ρ2 => (evC refs call c ρ2).bind fun (b, ρ3) =>
  if b = true then (evE refs call m ρ3).bind fun (y, _, ρ4) => .ok (acc.1 ++ [y], wipe ρ4 (own.map (·.2))) else .ok (acc.1, wipe ρ3 (own.map (·.2)))
theorem fold_last {α β : Type} {f : β → α → R β} : ∀ {xs : List α} {x : α} {b c : β}, (xs ++ [x]).foldlM f b = .ok c → ∃ d, xs.foldlM f b = .ok d ∧ f d x = .ok c
  | [], x, b, c, e => by
    refine ⟨b, rfl, ?_⟩
    have e : (f b x).bind (fun d => R.ok d) = .ok c := e
    obtain ⟨d, e1, e2⟩ := bind_ok e
    cases e2
    exact e1
  | y :: ys, x, b, c, e => by
    have e : (f b y).bind (fun d => (ys ++ [x]).foldlM f d) = .ok c := e
    obtain ⟨d, e1, e2⟩ := bind_ok e
    obtain ⟨d2, g1, g2⟩ := fold_last e2
    refine ⟨d2, ?_, g2⟩
    show (f b y).bind (fun d => ys.foldlM f d) = _
    rw [e1]
    exact g1
theorem fold_take {α β : Type} {f : β → α → R β} {xs : List α} {b c : β} (e : xs.foldlM f b = .ok c) : ∀ i, i ≤ xs.length → ∃ d, (xs.take i).foldlM f b = .ok d := fun i hi => by
  have h : ∀ n, n ≤ xs.length → ∃ d, (xs.take (xs.length - n)).foldlM f b = .ok d := by
    intro n
    induction n with
    | zero => intro _; exact ⟨c, by rw [Nat.sub_zero, List.take_length]; exact e⟩
    | succ n ih =>
      intro hn
      obtain ⟨d, hd⟩ := ih (by omega)
      have h1 : xs.length - n = (xs.length - (n + 1)) + 1 := by omega
      rw [h1, List.take_add_one, List.getElem?_eq_getElem (show xs.length - (n + 1) < xs.length by omega)] at hd
      obtain ⟨d2, g1, _⟩ := fold_last hd
      exact ⟨d2, g1⟩
  have := h (xs.length - i) (by omega)
  rwa [show xs.length - (xs.length - i) = i by omega] at this
theorem fold_step {α β : Type} {f : β → α → R β} {xs : List α} {b c d : β} {i : Nat} {x : α} (e : xs.foldlM f b = .ok c) (hx : xs[i]? = some x) (hd : (xs.take i).foldlM f b = .ok d) : ∃ d', f d x = .ok d' ∧ (xs.take (i + 1)).foldlM f b = .ok d' := by
  have hl := lt_of_get hx
  obtain ⟨d', h⟩ := fold_take e (i + 1) hl
  have h0 := h
  rw [List.take_add_one, hx] at h
  obtain ⟨d2, g1, g2⟩ := fold_last h
  rw [hd] at g1
  cases g1
  exact ⟨d', g2, h0⟩
theorem l2wipe_in {σ : L2.St} {j : Nat} : ∀ is : List Nat, j ∈ is → j < σ.length → (L2.wipe σ is)[j]? = some none
  | [], h, _ => by cases h
  | i :: is, h, hl => by
    show ((L2.wipe σ is).set i none)[j]? = _
    by_cases hi : i = j
    · subst hi
      rw [List.getElem?_set_self (by rw [L2.wipe_length]; exact hl)]
    · rw [List.getElem?_set_ne hi]
      exact l2wipe_in is ((List.mem_cons.mp h).elim (fun e => absurd e.symm hi) id) hl
theorem l2wipe_congr {σ σ2 : L2.St} {is : List Nat} (hl : σ2.length = σ.length) (h : ∀ j, j ∉ is → σ2[j]? = σ[j]?) : L2.wipe σ2 is = L2.wipe σ is := by
  apply List.ext_getElem?
  intro j
  by_cases hj : j ∈ is
  · by_cases hn : j < σ.length
    · rw [l2wipe_in is hj hn, l2wipe_in is hj (by omega)]
    · rw [List.getElem?_eq_none (by rw [L2.wipe_length]; omega), List.getElem?_eq_none (by rw [L2.wipe_length]; omega)]
  · rw [l2wipe_out is hj, l2wipe_out is hj, h j hj]
section
variable {S : Addr → Prop} {ra : Option Addr} {ρ ρ1 ρ2 : Env} {σ : L2.St} {H H1 H2 : Hp} {D : Addr}
theorem pub_hid {o : HO} (h : S D) : Pub S ρ σ (upd H D o) = Pub S ρ σ H := by
  funext b
  unfold Pub Hid
  by_cases hb : S b ∨ own ρ σ b
  · rw [if_pos hb, if_pos hb]
  · rw [if_neg hb, if_neg hb, upd_ne (show b ≠ D from fun e => hb (.inl (by rw [e]; exact h)))]
theorem SR.hidUpd {o : HO} (r : SR K S ra ρ σ H) (h : S D) : SR K S ra ρ σ (upd H D o) := by
  refine ⟨r.len, fun i d e => ?_, fun i d f e n => ?_, r.inj, fun b hb => ?_⟩
  · rw [pub_hid h]; exact r.fz i d e
  · obtain ⟨a, h1, h2, h3, h4⟩ := r.ow i d f e n
    rw [pub_hid h]
    exact ⟨a, h1, h2, h3.mono (upd_ne (show a ≠ D from fun e => h2 (by rw [e]; exact h))) (fun _ _ z => z), h4⟩
  · by_cases e : b = D
    · subst e
      rw [upd_same]
      simp
    · rw [upd_ne e]; exact r.tr b hb
/-- a step of a walk -/
theorem Goes.step {T : Addr → Prop} {x : V} {H' : Hp} {d : PyData} (r : SR K T ra ρ σ H) (s : Same A0 (Pub T ρ σ H)) (y : (H' = H ∧ Rep K A0 x d) ∨ ∃ p vs ds, H p = none ∧ x = V.ref p ∧ H' = upd H p (.tup vs) ∧ d = .tuple ds ∧ RepAll K A0 vs ds) :
    Aft K T ra ρ σ H ρ H' ∧ Rep K (Pub T ρ σ H') x d := by
  rcases y with ⟨rfl, h⟩ | ⟨p, vs, ds, hp, rfl, rfl, rfl, h⟩
  · exact ⟨.refl r, h.mono s⟩
  · obtain ⟨r1, s1, k1⟩ := r.grow (same_upd (o := .tup vs) hp)
    obtain ⟨n1, n2⟩ := r.new hp
    refine ⟨⟨r1, s1, k1⟩, .tup (SqT.of ?_) (h.mono (s.trans s1))⟩
    rw [pub_of n1 n2, upd_same]
end
theorem comp_of {X : Cx} {own : List (Str × Nat)} {t : Tg} {k : ItK} {src c : Exs} {m : Ex} {elt tg iter : Expr} {ifs : List Expr} {scope : Scope} (hi : PI X tg iter (TIt X.K refs call k src)) (ok : BlkOk X.N X.env.scope scope own)
    (hg : ∀ (s : Shared) (H : Hp) (C : Addr) (cl : List (Str × Addr)) (fp : List Addr), PG (X.blk s H scope (compEnvC scope cl C X.env) fp) tg (TGt X.K t)) (ht : ∀ (s : Shared) (H : Hp) (C : Addr) (cl : List (Str × Addr)) (fp : List Addr), PTs (X.blk s H scope (compEnvC scope cl C X.env) fp) ifs (TCs X.K refs call c))
    (he : ∀ (s : Shared) (H : Hp) (C : Addr) (cl : List (Str × Addr)) (fp : List Addr), PE (X.blk s H scope (compEnvC scope cl C X.env) fp) elt (TEv X.K refs call m)) (hc : X.calm = true) (hN : X.N.Nodup) (hs : ∀ x, foldedSetIterable iter X.env x = pure x) (htn : ((tnames t).all fun i => decide (i ∈ own.map (·.2))) = true) :
    (∀ σ H Q, TEv X.K refs call (.comp own t k src c m) σ H Q → tLc (TIt X.K refs call k src) (TGt X.K t) (TCs X.K refs call c) (TEv X.K refs call m) (own.map (·.2)) σ H Q) := by
  rintro σ H Q ⟨S, ra, ρ, d, f, ρ', r, e, q⟩
  obtain ⟨⟨ds, ρ1⟩, e1, e⟩ := bind_ok e
  obtain ⟨xs, e2, e⟩ := bind_ok e
  by_cases hcond : noneOwned ρ1 (own.map (·.2)) = true ∧ xs.length ≤ sizeLine
  · have e := (if_pos hcond).symm.trans e
    obtain ⟨⟨acc, ρn⟩, e3, e⟩ := bind_ok e
    cases e
    obtain ⟨hno, hsz⟩ := hcond
    have e3 : xs.foldlM (stepC refs call own t c m) ([], wipe ρ1 (own.map (·.2))) = .ok (acc, ρn) := e3
    refine ⟨S, ra, ρ, ds, ρ1, xs, r, e1, e2, fun J H1 af go D hD => ?_⟩
    obtain ⟨G, Y, w, hG, hY⟩ := go
    obtain ⟨nS, nO⟩ := af.1.new hD
    obtain ⟨rw0, sw0⟩ := af.1.wipe (own.map (·.2))
    have nOw : ¬ Fh.own (wipe ρ1 (own.map (·.2))) (L2.wipe σ (own.map (·.2))) D := (rw0.new hD).2
    have kp0 : ∀ b, H1 b ≠ none → upd H1 D (.lst []) b = H1 b := fun b hb => upd_ne fun e => hb (e ▸ hD)
    have s00 : Same (Pub S (wipe ρ1 (own.map (·.2))) (L2.wipe σ (own.map (·.2))) H1) (Pub (plus S D) (wipe ρ1 (own.map (·.2))) (L2.wipe σ (own.map (·.2))) (upd H1 D (.lst []))) := pub_mono fun b o eb h1 h2 => by
      have ne := ne_of_none eb hD
      exact ⟨fun z => z.elim h1 ne, h2, by rw [upd_ne ne]; exact eb⟩
    have r0 : SR X.K (plus S D) ra (wipe ρ1 (own.map (·.2))) (L2.wipe σ (own.map (·.2))) (upd H1 D (.lst [])) := rw0.beside s00 (fun b hb => kp0 b (hb.elim (rw0.tr b) fun z => (rw0.ownS z).1)) nS nOw (by rw [upd_same]; simp)
    refine lc_it w (Qd := Q (.ref D)) (fun i H => ∃ (a : List PV) (ρi : Env) (vs : List V), (xs.take i).foldlM (stepC refs call own t c m) ([], wipe ρ1 (own.map (·.2))) = .ok (a, ρi) ∧ SR X.K (plus S D) ra ρi (L2.wipe σ (own.map (·.2))) H ∧ H D = some (.lst vs) ∧
      RepAll X.K (Pub (plus S D) ρi (L2.wipe σ (own.map (·.2))) H) vs a ∧ Same (Pub S ρ1 σ H1) (Pub (plus S D) ρi (L2.wipe σ (own.map (·.2))) H) ∧ (∀ b, S b → H b = H1 b) ∧ a.length ≤ i) ?_ ?_ ?_ ?_
    · exact ⟨[], _, [], rfl, r0, upd_same, .nil, sw0.trans s00, fun b hb => kp0 b (af.1.tr b hb), Nat.le_refl _⟩
    · rintro i H _ ⟨a, ρi, vs, _, r1, _, _, s1, _, _⟩
      exact hG H (s1.trans pub_same)
    · rintro i x H H' hi ⟨a, ρi, vs, ef, r1, hD1, rv, s1, k1, hl⟩ y
      obtain ⟨dx, hx⟩ : ∃ dx, xs[i]? = some dx := ⟨xs[i], List.getElem?_eq_getElem hi⟩
      obtain ⟨⟨a', ρi'⟩, est, ef'⟩ := fold_step e3 hx ef
      obtain ⟨ρ2, g1, est⟩ := bind_ok est
      obtain ⟨⟨b, ρ3⟩, g2, est⟩ := bind_ok est
      obtain ⟨afy, rx⟩ := Goes.step r1 s1 (hY i H x H' dx (s1.trans pub_same) hx y)
      refine ⟨plus S D, ra, ρi, dx, ρ2, afy.1, g1, rx, fun σ2 ⟨r2, s2, l2, o2⟩ => ?_⟩
      have hw : L2.wipe σ2 (own.map (·.2)) = L2.wipe σ (own.map (·.2)) := l2wipe_congr (by rw [l2, L2.wipe_length]) fun j hj => by
        rw [o2 j fun z => hj (of_decide_eq_true (List.all_eq_true.mp htn j z)), l2wipe_out _ hj]
      refine ⟨hw, plus S D, ra, ρ2, ρ3, b, r2, g2, fun H3 af3 => ?_⟩
      have sA : Same (Pub (plus S D) ρi (L2.wipe σ (own.map (·.2))) H) (Pub (plus S D) ρ3 σ2 H3) := (afy.2.1.trans s2).trans af3.2.1
      cases b with
      | true =>
        obtain ⟨⟨y1, fy, ρ4⟩, g3, est⟩ := bind_ok (show ((evE refs call m ρ3).bind fun (y, _, ρ4) => R.ok (a ++ [y], wipe ρ4 (own.map (·.2)))) = .ok (a', ρi') from est)
        cases est
        refine ⟨plus S D, ra, ρ3, y1, fy, ρ4, af3.1, g3, fun v H4 o => ?_⟩
        obtain ⟨af4, rp4⟩ := o.aft
        have e4 : H4 D = some (.lst vs) := by rw [af4.2.2 D (.inr rfl), af3.2.2 D (.inr rfl), afy.2.2 D (.inr rfl)]; exact hD1
        obtain ⟨r5, s5⟩ := af4.1.wipe (own.map (·.2))
        rw [hw] at r5 s5
        have sB := (sA.trans af4.2.1).trans s5
        refine ⟨vs, e4, by rw [rv.length]; omega, a ++ [y1], _, vs ++ [v], ef', r5.hidUpd (.inr rfl), upd_same, ?_, ?_, fun b hb => ?_, ?_⟩
        · rw [pub_hid (.inr rfl)]
          exact (rv.mono sB).append (.cons (rp4.mono s5) .nil)
        · rw [pub_hid (.inr rfl)]
          exact s1.trans sB
        · rw [upd_ne (show b ≠ D from fun e => nS (by rw [← e]; exact hb)), af4.2.2 b (.inl hb), af3.2.2 b (.inl hb), afy.2.2 b (.inl hb)]
          exact k1 b hb
        · rw [List.length_append]
          exact Nat.succ_le_succ hl
      | false =>
        have est : R.ok (a, wipe ρ3 (own.map (·.2))) = .ok (a', ρi') := est
        cases est
        obtain ⟨r5, s5⟩ := af3.1.wipe (own.map (·.2))
        rw [hw] at r5 s5
        have sB := sA.trans s5
        exact ⟨a, _, vs, ef', r5, by rw [af3.2.2 D (.inr rfl), afy.2.2 D (.inr rfl)]; exact hD1, rv.mono sB, s1.trans sB, fun b hb => by rw [af3.2.2 b (.inl hb), afy.2.2 b (.inl hb)]; exact k1 b hb, Nat.le_succ_of_le hl⟩
    · rintro H ⟨a, ρi, vs, ef, r1, hD1, rv, s1, k1, hl⟩
      rw [List.take_length] at ef
      rw [e3] at ef
      cases ef
      obtain ⟨r2, oi⟩ := SR.unwipe r1 af.1 hno s1
      have pe : Pub (plus S D) (unwipe ρ1 ρn (own.map (·.2))) σ H = Pub (plus S D) ρn (L2.wipe σ (own.map (·.2))) H := hid_congr fun b => or_congr Iff.rfl (oi b)
      refine q _ H ⟨fun b hb => (k1 b hb).trans (af.2.2 b hb), D, rfl, nS, fun z => ?_, r2, ?_, ?_⟩
      · exact (r1.ownS ((oi D).mp z)).2 (.inr rfl)
      · show Top X.K H (Pub (plus S D) (unwipe ρ1 ρn (own.map (·.2))) σ H) D (.list acc)
        rw [pe]
        exact ⟨vs, hD1, rv⟩
      · show Same _ (Pub (plus S D) (unwipe ρ1 ρn (own.map (·.2))) σ H)
        rw [pe]
        exact af.2.1.trans s1
  · have e := (if_neg hcond).symm.trans e
    cases e
end
end Fh

set_option maxHeartbeats 2000000
/-! Fh: THE THEOREM for expressions. -/
namespace Fh
open PySem PySem.Spec PyProof.Rows L2
section
variable {refs : Refs} {call : Calls} {C : Ck} {k : Nat}
def PlainT (X : Cx) (e : Expr) : Prop := ∀ whole, isTrue e X.env whole = (do let v ← whole; standAt e.pos; holding [v] (truthy v))
theorem both {X : Cx} {m : Ex} {e : Expr} (hE : PE X e (TEv X.K refs call m)) (he : PlainT X e) : PE X e (TEv X.K refs call m) ∧ PT X e (TTe X.K refs call m) :=
  ⟨hE, (pt_truth hE he).weak fun σ H Q ⟨S, ra, ρ, d, f, ρ', t, r, e1, et, q⟩ => ⟨S, ra, ρ, d, f, ρ', r, e1, fun v H' o => by
    obtain ⟨a, rp⟩ := o.aft
    exact ⟨t, truV pub_same (.inl rp) et, q H' a⟩⟩⟩
/-- a test's operand -/
theorem ptp_of {X : Cx} {m : Ex} {e : Expr} (h : PE X e (TEv X.K refs call m) ∧ PT X e (TTe X.K refs call m)) (hV : ∀ i, m = .v i → PE X e (tVar i) ∧ PlainT X e) : PT X e (TTp X.K refs call m) := by
  by_cases hv : ∃ i, m = .v i
  · obtain ⟨i, rfl⟩ := hv
    obtain ⟨h1, h2⟩ := hV i rfl
    refine (pt_truth h1 h2).weak fun σ H Q ⟨S, ra, ρ, d, ρ', t, r, e1, et, q⟩ => ?_
    obtain ⟨e2, rfl⟩ := peek_v e1
    obtain ⟨v, g1, g2⟩ := r.opd e2
    exact ⟨v, g1, t, truV pub_same g2 et, q H (.refl r)⟩
  · have hv : ∀ i, m ≠ .v i := fun i e => hv ⟨i, e⟩
    refine h.2.weak fun σ H Q ⟨S, ra, ρ, d, ρ', t, r, e1, et, q⟩ => ?_
    obtain ⟨f, e2⟩ := peek_o hv e1
    exact ⟨S, ra, ρ, d, f, ρ', t, r, e2, et, q⟩
theorem name_plain {X : Cx} {x : Str} {p : Pos} : PlainT X (.Name x p) := fun _ => rfl
theorem var_name {i : Nat} {e : Expr} {sc : Scope} (h : chk C sc (.v i) e = true) : ∃ x p, e = .Name x p := by
  unfold chk at h
  split at h
  · exact ⟨_, _, rfl⟩
  · cases h
theorem hV_of {m : Ex} {e : Expr} {sc : Scope} {X : Cx} (h : chk C sc m e = true) (cf : Cf C refs call k X) (hs : X.env.scope = sc) : ∀ i, m = .v i → PE X e (tVar i) ∧ PlainT X e := fun i e1 => by
  subst e1
  obtain ⟨x, p, e2⟩ := var_name h
  refine ⟨s_var h cf hs, ?_⟩
  subst e2
  exact name_plain
theorem rep_none {K : PySem.W.Frag} {A : Hp} {v : V} {d : PyData} (h : Rep K (fun _ => none) v d) : Rep K A v d := h.mono fun b o e => by cases (show (none : Option HO) = some o from e)
theorem is_none {K : PySem.W.Frag} {A H : Hp} {v : V} {d : PyData} (o : Opd K A H v d) : decide (v = V.non) = isNone d := by
  rcases o with h | ⟨a, rfl, h⟩
  · cases h <;> rfl
  · cases d with
    | list ds => rfl
    | _ => exact h.elim

theorem pa_tys {X : Cx} (cb : ∀ x ∈ bnames, X.mg x = none) : ∀ {ts : List Ty} {gs : List Expr}, isTys ts gs X.env.scope = true → PA X gs (fun _ H Q => Q (ts.map fun t => V.ty (tyS t)) H)
  | [], [], _ => pa_nil.weak fun σ H Q q => q
  | t :: ts, e :: es, h => by
    unfold isTys at h
    simp only [Bool.and_eq_true] at h
    obtain ⟨h1, h2⟩ := h
    split at h1
    · rename_i y pos
      simp only [Bool.and_eq_true, decide_eq_true_eq] at h1
      obtain ⟨⟨rfl, h3⟩, h4⟩ := h1
      have hm : X.mg (tyS t : Str) = none := cb _ (by cases t <;> decide +kernel)
      have hb : bootBuiltins (tyS t : Str) = some (.type (tyS t)) := by cases t <;> decide +kernel
      obtain ⟨n1, _, n3⟩ := okN_ok h4
      exact (pa_cons (pe_bltn (v := V.ty (tyS t)) (gl_of h3 rfl) hm hb rfl n3 n1) (pa_tys cb h2)).weak fun σ H Q q => q
    · cases h1
  | [], _ :: _, h => by unfold isTys at h; cases h
  | _ :: _, [], h => by unfold isTys at h; cases h
theorem clsAll : ∀ ts : List Ty, Paired ClsV (ts.map fun t => V.ty (tyS t)) (ts.map fun t => Value.type (tyS t))
  | [] => .nil
  | t :: ts => .cons (.ty _) (clsAll ts)
theorem repRng {K : PySem.W.Frag} {A : Hp} {a : Int} : ∀ n : List Nat, RepAll K A (n.map fun (i : Nat) => V.int (a + (i : Int))) (n.map fun (i : Nat) => PyData.int (a + (i : Int)))
  | [] => .nil
  | _ :: n => .cons (.int _) (repRng n)
theorem prg_of {X : Cx} {src : Exs} {g : Expr} {gs : List Expr} {sc : Scope} {p pos : Pos} (hg : Gl X "range") (hm : X.mg "range" = none) (hL : PA X (g :: gs) (TPs X.K refs call src)) (hc : chkL C sc src (g :: gs) = true) :
    PRg X (.Call (.Name "range" p) (g :: gs) [] pos) (fun σ H Q => TPs X.K refs call src σ H fun vs H1 => (∃ n, vs = [V.int n] ∧ Q 0 n H1) ∨ ∃ i j, vs = [V.int i, V.int j] ∧ Q i j H1) := by
  intro pins s σ H Q I h
  obtain ⟨k1, as1, hc1⟩ := chkL_ok hc
  have hpl : (backTo pos (starEach gs X.env)).any (·.1) = false := noStar hc1
  refine Call_ (ld_blt I hg hm boot_range (PyProof.Rows.callWith_type1 (thn (hL.run pos pins s σ H _ I h) fun us s1 ⟨vs, H1, I1, r1, q1⟩ => ?_) (star_plain k1) hpl))
  rcases q1 with ⟨n, rfl, q⟩ | ⟨i, j, rfl, q⟩
  · cases r1 with
    | cons r rr =>
      cases rr
      obtain ⟨t, rfl⟩ := r
      exact call_range_1 ⟨_, 0, n, _, _, _, H1, rfl, IsRange.new _ _ _ _ _ _ _, I1.kept fun b u e => Heap.get?_push_of_some _ e, q⟩
  · cases r1 with
    | cons r rr =>
      cases rr with
      | cons r' rr =>
        cases rr
        obtain ⟨t, rfl⟩ := r
        obtain ⟨t', rfl⟩ := r'
        exact call_range_2 ⟨_, i, j, _, _, _, H1, rfl, IsRange.new _ _ _ _ _ _ _, I1.kept fun b u e => Heap.get?_push_of_some _ e, q⟩
theorem opdsInt1 {K : PySem.W.Frag} {A H : Hp} {vs : List V} {i : Int} (h : OpdAll K A H vs [.int i]) : vs = [.int i] := by
  obtain ⟨v, rfl, o⟩ := opd1 h
  rw [o.int]
theorem opdsInt2 {K : PySem.W.Frag} {A H : Hp} {vs : List V} {i j : Int} (h : OpdAll K A H vs [.int i, .int j]) : vs = [.int i, .int j] := by
  obtain ⟨v, w, rfl, o1, o2⟩ := opd2 h
  rw [o1.int, o2.int]
/-- a block's context -/
theorem Cf.blk {X : Cx} (cf : Cf C refs call k X) (s : Shared) (H : Hp) (scope : Scope) (cl : List (Str × Addr)) (D : Addr) (fp : List Addr) : Cf C refs call k (X.blk s H scope (compEnvC scope cl D X.env) fp) :=
  ⟨cf.N, cf.nd, cf.calm, cf.room, cf.bltn, cf.glo, cf.defs⟩
def TPo (K : PySem.W.Frag) (refs : Refs) (call : Calls) (es : Exs) : TO := fun σ H Q => ∃ S ra ρ l ρ', SR K S ra ρ σ H ∧ evO refs call es ρ = .ok (l, ρ') ∧ ∀ H', Aft K S ra ρ σ H ρ' H' → Q l H'
theorem _root_.L2.PO.weak {X : Cx} {e : Option Expr} {t t' : TO} (h : PO X e t) (w : ∀ σ H Q, t' σ H Q → t σ H Q) : PO X e t' := ⟨fun pins s σ H Q I q => h.run pins s σ H Q I (w σ H Q q)⟩
theorem _root_.L2.PTs.weak {X : Cx} {e : List Expr} {t t' : TT} (h : PTs X e t) (w : ∀ σ H Q, t' σ H Q → t σ H Q) : PTs X e t' := ⟨fun pins s σ H Q I q => h.run pins s σ H Q I (w σ H Q q)⟩
theorem it_of {X : Cx} {sc : Scope} {k' : ItK} {src : Exs} {tg iter : Expr} {fs : List Expr} (ht : tgFor k' tg = true) (hf : srcOf k' sc iter = some fs) (hc : chkL C sc src fs = true) (hL : PA X fs (TLs X.K refs call src))
    (h1 : ∀ {f : Expr}, chkL C sc src [f] = true → ∃ a, src = .cons a .nil ∧ PE X f (TEv X.K refs call a)) (cf : Cf C refs call k X) (hs : X.env.scope = sc) : PI X tg iter (TIt X.K refs call k' src) := by
  cases k' with
  | seq =>
    cases hf
    obtain ⟨a, rfl, pa⟩ := h1 hc
    exact it_seq pa
  | rng =>
    obtain ⟨p2, g, gs, pos2, rfl, rfl, h5⟩ := callOf_ok hf
    exact it_rng (gl_of h5 hs) (cf.bltn _ (by decide +kernel)) hL hc
  | zip =>
    obtain ⟨p2, g, gs, pos2, rfl, rfl, h5⟩ := callOf_ok hf
    exact it_zip ht (gl_of h5 hs) (cf.bltn _ (by decide +kernel)) hL hc
  | enm =>
    obtain ⟨p2, g, gs, pos2, rfl, rfl, h5⟩ := callOf_ok hf
    exact it_enm ht (gl_of h5 hs) (cf.bltn _ (by decide +kernel)) hL hc
  | rgd =>
    obtain ⟨p2, g, gs, pos2, rfl, rfl, h5⟩ := callOf_ok hf
    exact it_rgd (gl_of h5 hs) (cf.bltn _ (by decide +kernel)) hL hc
set_option maxHeartbeats 8000000 in
mutual
theorem sE : ∀ (m : Ex) {e : Expr} {sc : Scope} {X : Cx}, chk C sc m e = true → Cf C refs call k X → X.env.scope = sc → PE X e (TEv X.K refs call m) ∧ PT X e (TTe X.K refs call m)
  | .v i, e, sc, X, h, cf, hs => by
    obtain ⟨x, p, rfl⟩ := var_name h
    refine both ((s_var h cf hs).weak fun σ H Q ⟨S, ra, ρ, d, f, ρ', r, e, q⟩ => ?_) name_plain
    have e : (getv ρ i).bind (fun d => R.ok (d, false, frz ρ i)) = .ok (d, f, ρ') := e
    obtain ⟨d', e1, e2⟩ := bind_ok e
    cases e2
    obtain ⟨v, g1, _⟩ := r.opd e1
    obtain ⟨fg, eg⟩ := getv_ok e1
    obtain ⟨w, g3, g4⟩ := (r.frz i).1.fz i d (frz_get eg)
    rw [g1] at g3
    cases g3
    exact ⟨v, g1, q v H ((Aft.frz r i).pub g4)⟩
  | .c d0, e, sc, X, h, cf, hs => by
    unfold chk at h
    split at h
    · rename_i c j pos
      have fin : ∀ {v : V}, PE X (.Constant c j pos) (tC v) → (∀ A : Hp, Rep X.K A v d0) → isM d0 = false → PE X (.Constant c j pos) (TEv X.K refs call (.c d0)) := fun {v} hp hr hm =>
        hp.weak fun σ H Q ⟨S, ra, ρ, d, f, ρ', r, e, q⟩ => by
          have e : R.ok (d0, false, ρ) = .ok (d, f, ρ') := e
          cases e
          exact q v H ((Aft.refl r).flat hm (hr _))
      refine both ?_ fun _ => rfl
      cases d0 with
      | none =>
        cases c with
        | none => exact fin pe_non (fun _ => .non) rfl
        | _ => cases h
      | bool b =>
        cases c with
        | bool b' =>
          have e : b' = b := eq_of_beq h
          subst e
          exact fin pe_bl (fun _ => .bl _) rfl
        | _ => cases h
      | int b =>
        cases c with
        | int b' =>
          have e : b' = b := of_decide_eq_true h
          subst e
          exact fin pe_int (fun _ => .int _) rfl
        | _ => cases h
      | str b =>
        cases c with
        | str b' =>
          have e : b' = b := of_decide_eq_true h
          subst e
          exact fin pe_str (fun _ => .str _) rfl
        | _ => cases h
      | _ => cases c <;> cases h
    · cases h
  | .g x d0, e, sc, X, h, cf, hs => by
    unfold chk at h
    split at h
    · rename_i y pos
      simp only [Bool.and_eq_true, decide_eq_true_eq] at h
      obtain ⟨⟨⟨rfl, h2⟩, h3⟩, h4⟩ := h
      obtain ⟨n1, _, _⟩ := okN_ok h3
      obtain ⟨hm, v, u, g1, g2, g3⟩ := cf.glo x d0 h4
      refine both ((pe_glob (gl_of h2 hs) g1 g2 n1).weak fun σ H Q ⟨S, ra, ρ, d, f, ρ', r, e, q⟩ => ?_) fun _ => rfl
      have e : R.ok (d0, false, ρ) = .ok (d, f, ρ') := e
      cases e
      exact q v H ((Aft.refl r).flat hm (rep_none g3))
    · cases h
  | .bin o a b, e, sc, X, h, cf, hs => by
    unfold chk at h
    split at h
    · rename_i f p g pos
      simp only [Bool.and_eq_true, decide_eq_true_eq] at h
      obtain ⟨⟨rfl, h1⟩, h2⟩ := h
      have pa := pk_of (sE a h1 cf hs).1 fun i e => (hV_of h1 cf hs i e).1
      have pb := pk_of (sE b h2 cf hs).1 fun i e => (hV_of h2 cf hs i e).1
      refine both ((pe_op (op_ar o) pa pb).weak fun σ H Q ⟨S, ra, ρ, d, fl, ρ', r, e, q⟩ => ?_) fun _ => rfl
      obtain ⟨⟨x, ρ1⟩, e1, e⟩ := bind_ok e
      obtain ⟨⟨y, ρ2⟩, e2, e⟩ := bind_ok e
      obtain ⟨x', e3, e⟩ := bind_ok e
      obtain ⟨z, e4, e⟩ := bind_ok e
      cases e
      exact two r e1 e2 fun v w H2 af hv hw => ⟨_, x', y, d, pub_same, hv.use af.1 e3, again_self af.1 e2 hw, e4, fun v' H' rs => q v' H' (af.res rs)⟩
    · cases h
  | .neg a, e, sc, X, h, cf, hs => by
    unfold chk at h
    split at h
    · rename_i f pos
      have pa := pk_of (sE a h cf hs).1 fun i e => (hV_of h cf hs i e).1
      refine both ((pe_un un_neg pa).weak fun σ H Q ⟨S, ra, ρ, d, fl, ρ', r, e, q⟩ => ?_) fun _ => rfl
      obtain ⟨⟨x, ρ1⟩, e1, e⟩ := bind_ok e
      obtain ⟨i, e2, e⟩ := bind_ok e
      cases e
      refine ⟨S, ra, ρ, x, ρ', r, e1, fun v H' af hv => ?_⟩
      cases x with
      | int j =>
        cases e2
        exact ⟨i, (again_self af.1 e1 hv).int, q _ H' (af.flat rfl (.int _))⟩
      | _ => cases e2
    · cases h
  | .nt a, e, sc, X, h, cf, hs => by
    unfold chk at h
    split at h
    · rename_i f pos
      have ha := sE a h cf hs
      have pa := pk_of ha.1 fun i e => (hV_of h cf hs i e).1
      refine ⟨(pe_notT pa).weak fun σ H Q ⟨S, ra, ρ, d, fl, ρ', r, e, q⟩ => ?_, (pt_not (ptp_of ha (hV_of h cf hs))).weak fun σ H Q ⟨S, ra, ρ, d, fl, ρ', t, r, e, et, q⟩ => ?_⟩
      · obtain ⟨⟨x, ρ1⟩, e1, e⟩ := bind_ok e
        obtain ⟨t, e2, e⟩ := bind_ok e
        cases e
        refine ⟨S, ra, ρ, x, ρ', r, e1, fun v H' af hv => ?_⟩
        exact ⟨t, tru_test (X := X) af.1 e1 hv e2, q _ H' (af.flat rfl (.bl _))⟩
      · obtain ⟨⟨x, ρ1⟩, e1, e⟩ := bind_ok e
        obtain ⟨t', e2, e⟩ := bind_ok e
        cases e
        cases et
        exact ⟨S, ra, ρ, x, ρ', t', r, e1, e2, q⟩
    · cases h
  | .bop n a b, e, sc, X, h, cf, hs => by
    unfold chk at h
    split at h
    · rename_i op f g es pos
      simp only [Bool.and_eq_true, decide_eq_true_eq] at h
      obtain ⟨⟨rfl, h1⟩, h2⟩ := h
      have ha := sE a h1 cf hs
      have pa := pk_of ha.1 fun i e => (hV_of h1 cf hs i e).1
      have pta := ptp_of ha (hV_of h1 cf hs)
      have hb : PE X (.BoolOp (if n = true then .And else .Or) (g :: es) pos) (TEv X.K refs call b) ∧ PW X (.BoolOp (if n = true then .And else .Or) (g :: es) pos) (TTe X.K refs call b) := by
        cases es with
        | nil =>
          have hb := sE b (e := g) h2 cf hs
          refine ⟨pe_one hb.1, ?_⟩
          cases n with
          | true => exact pw_and1 hb.2
          | false => exact pw_or1 hb.2
        | cons e1 es =>
          have hb := sE b (e := .BoolOp (if n = true then .And else .Or) (g :: e1 :: es) pos) h2 cf hs
          refine ⟨hb.1, ?_⟩
          -- a test of and, or does not look at the whole
          exact ⟨fun wh pins s σ H Q I h => by
            have := hb.2.run pins s σ H Q I h
            cases n <;> exact this⟩
      cases n with
      | true =>
        refine ⟨(pe_andT pa hb.1).weak fun σ H Q ⟨S, ra, ρ, d, fl, ρ', r, e, q⟩ => ?_, (PW.pt (pw_and pta hb.2)).weak fun σ H Q ⟨S, ra, ρ, d, fl, ρ', t, r, e, et, q⟩ => ?_⟩
        · obtain ⟨⟨x, ρ1⟩, e1, e⟩ := bind_ok e
          obtain ⟨t, e2, e⟩ := bind_ok e
          refine ⟨S, ra, ρ, x, ρ1, r, e1, fun v H' af hv => ⟨t, tru_test (X := X) af.1 e1 hv e2, ?_⟩⟩
          cases t with
          | true =>
            refine iteT ⟨S, ra, ρ1, d, fl, ρ', af.1, e, fun v' H2 o => q v' H2 (o.more af)⟩
          | false =>
            obtain ⟨fx, e⟩ := ite_ok (show (if flat x = true then R.ok (x, false, ρ1) else .st) = .ok (d, fl, ρ') from e)
            cases e
            refine iteF (q v H' (af.pub ?_))
            rcases again_self af.1 e1 hv with h | ⟨_, _, h⟩
            · exact h
            · exact (flat_top fx h).elim
        · obtain ⟨⟨x, ρ1⟩, e1, e⟩ := bind_ok e
          obtain ⟨t', e2, e⟩ := bind_ok e
          refine ⟨S, ra, ρ, x, ρ1, t', r, e1, e2, fun H' af => ?_⟩
          cases t' with
          | true => exact iteT ⟨S, ra, ρ1, d, fl, ρ', t, af.1, e, et, fun H2 af2 => q H2 (af.trans af2)⟩
          | false =>
            obtain ⟨fx, e⟩ := ite_ok (show (if flat x = true then R.ok (x, false, ρ1) else .st) = .ok (d, fl, ρ') from e)
            cases e
            rw [e2] at et
            cases et
            exact iteF (q H' af)
      | false =>
        refine ⟨(pe_orT pa hb.1).weak fun σ H Q ⟨S, ra, ρ, d, fl, ρ', r, e, q⟩ => ?_, (PW.pt (pw_or pta hb.2)).weak fun σ H Q ⟨S, ra, ρ, d, fl, ρ', t, r, e, et, q⟩ => ?_⟩
        · obtain ⟨⟨x, ρ1⟩, e1, e⟩ := bind_ok e
          obtain ⟨t, e2, e⟩ := bind_ok e
          refine ⟨S, ra, ρ, x, ρ1, r, e1, fun v H' af hv => ⟨t, tru_test (X := X) af.1 e1 hv e2, ?_⟩⟩
          cases t with
          | false =>
            refine iteF ⟨S, ra, ρ1, d, fl, ρ', af.1, e, fun v' H2 o => q v' H2 (o.more af)⟩
          | true =>
            obtain ⟨fx, e⟩ := ite_ok (show (if flat x = true then R.ok (x, false, ρ1) else .st) = .ok (d, fl, ρ') from e)
            cases e
            refine iteT (q v H' (af.pub ?_))
            rcases again_self af.1 e1 hv with h | ⟨_, _, h⟩
            · exact h
            · exact (flat_top fx h).elim
        · obtain ⟨⟨x, ρ1⟩, e1, e⟩ := bind_ok e
          obtain ⟨t', e2, e⟩ := bind_ok e
          refine ⟨S, ra, ρ, x, ρ1, t', r, e1, e2, fun H' af => ?_⟩
          cases t' with
          | false => exact iteF ⟨S, ra, ρ1, d, fl, ρ', t, af.1, e, et, fun H2 af2 => q H2 (af.trans af2)⟩
          | true =>
            obtain ⟨fx, e⟩ := ite_ok (show (if flat x = true then R.ok (x, false, ρ1) else .st) = .ok (d, fl, ρ') from e)
            cases e
            rw [e2] at et
            cases et
            exact iteT (q H' af)
    · cases h
  | .cmp o a b, e, sc, X, h, cf, hs => by
    unfold chk at h
    split at h
    · rename_i f p g pos
      simp only [Bool.and_eq_true, decide_eq_true_eq] at h
      obtain ⟨⟨⟨rfl, h1⟩, h2⟩, h3⟩ := h
      have pa := pk_of (sE a h1 cf hs).1 fun i e => (hV_of h1 cf hs i e).1
      have pb := pk_of (sE b h2 cf hs).1 fun i e => (hV_of h2 cf hs i e).1
      refine ⟨(pe_cmpR (op_cm o cf.room) pa pb (noMarks h3)).weak fun σ H Q ⟨S, ra, ρ, d, fl, ρ', r, e, q⟩ => ?_, (pt_cmpR (op_cm o cf.room) pa pb (noMarks h3)).weak fun σ H Q ⟨S, ra, ρ, d, fl, ρ', t, r, e, et, q⟩ => ?_⟩
      · obtain ⟨⟨x, ρ1⟩, e1, e⟩ := bind_ok e
        obtain ⟨⟨y, ρ2⟩, e2, e⟩ := bind_ok e
        obtain ⟨x', e3, e⟩ := bind_ok e
        obtain ⟨t, e4, e⟩ := bind_ok e
        cases e
        exact two r e1 e2 fun v w H2 af hv hw => ⟨_, x', y, t, pub_same, hv.use af.1 e3, again_self af.1 e2 hw, e4, q _ H2 (af.flat rfl (.bl _))⟩
      · obtain ⟨⟨x, ρ1⟩, e1, e⟩ := bind_ok e
        obtain ⟨⟨y, ρ2⟩, e2, e⟩ := bind_ok e
        obtain ⟨x', e3, e⟩ := bind_ok e
        obtain ⟨t', e4, e⟩ := bind_ok e
        cases e
        cases et
        exact two r e1 e2 fun v w H2 af hv hw => ⟨_, x', y, t, pub_same, hv.use af.1 e3, again_self af.1 e2 hw, e4, t, rfl, q H2 af⟩
    · cases h
  | .chn a o b o2 c, e, sc, X, h, cf, hs => by
    unfold chk at h
    split at h
    · rename_i f p1 p2 g g2 pos
      simp only [Bool.and_eq_true, decide_eq_true_eq] at h
      obtain ⟨⟨⟨⟨⟨⟨rfl, rfl⟩, h1⟩, h2⟩, h3⟩, h4⟩, h5⟩ := h
      have pa := pk_of (sE a h1 cf hs).1 fun i e => (hV_of h1 cf hs i e).1
      have pb := pk_of (sE b h2 cf hs).1 fun i e => (hV_of h2 cf hs i e).1
      have pc := pk_of (sE c h3 cf hs).1 fun i e => (hV_of h3 cf hs i e).1
      have hm : lastMarks [cmr o, cmr o2] [g, g2] = false := noMarks h5
      have key : ∀ {σ H} {S : Addr → Prop} {ra ρ d fl ρ'} {Q : VK}, SR X.K S ra ρ σ H → evE refs call (.chn a o b o2 c) ρ = .ok (d, fl, ρ') → (∀ t H', d = .bool t → Aft X.K S ra ρ σ H ρ' H' → Q (.bl t) H') →
          tChain (rCm X.K o) (rCm X.K o2) (TPk X.K refs call a) (TPk X.K refs call b) (TPk X.K refs call c) σ H Q := fun {σ H S ra ρ d fl ρ' Q} r e q => by
        obtain ⟨⟨x, ρ1⟩, e1, e⟩ := bind_ok e
        obtain ⟨⟨y, ρ2⟩, e2, e⟩ := bind_ok e
        obtain ⟨x', e3, e⟩ := bind_ok e
        obtain ⟨t, e4, e⟩ := bind_ok e
        refine two r e1 e2 fun v w H2 af hv hw => ⟨_, x', y, t, pub_same, hv.use af.1 e3, again_self af.1 e2 hw, e4, t, rfl, ?_⟩
        cases t with
        | true =>
          obtain ⟨⟨z, ρ3⟩, e5, e⟩ := bind_ok (show ((peek c ρ2 (evE refs call c ρ2)).bind fun (z, ρ3) => (again b y ρ3).bind fun y => (cmpv o2 y z).bind fun u => R.ok (.bool u, false, ρ3)) = .ok (d, fl, ρ') from e)
          obtain ⟨y', e6, e⟩ := bind_ok e
          obtain ⟨u, e7, e⟩ := bind_ok e
          cases e
          exact iteT ⟨S, ra, ρ2, z, ρ', af.1, e5, fun v3 H3 af3 hz => ⟨_, y', z, u, pub_same, (hw.mono af3.2.1).use af3.1 e6, again_self af3.1 e5 hz, e7, q u H3 rfl (af.trans af3)⟩⟩
        | false =>
          have e : R.ok (PyData.bool false, false, ρ2) = .ok (d, fl, ρ') := e
          cases e
          exact iteF (q false H2 rfl af)
      refine ⟨(pe_chain (op_cm o cf.room) (op_cm o2 cf.room) pa pb pc hm).weak fun σ H Q ⟨S, ra, ρ, d, fl, ρ', r, e, q⟩ => ?_, (pt_chain (op_cm o cf.room) (op_cm o2 cf.room) pa pb pc hm).weak fun σ H Q ⟨S, ra, ρ, d, fl, ρ', t, r, e, et, q⟩ => ?_⟩
      · refine key r e fun t H' ed af => ?_
        have ef : fl = false := by
          obtain ⟨⟨x, ρ1⟩, e1, e⟩ := bind_ok e
          obtain ⟨⟨y, ρ2⟩, e2, e⟩ := bind_ok e
          obtain ⟨x', e3, e⟩ := bind_ok e
          obtain ⟨t, e4, e⟩ := bind_ok e
          cases t with
          | true =>
            obtain ⟨⟨z, ρ3⟩, e5, e⟩ := bind_ok (show ((peek c ρ2 (evE refs call c ρ2)).bind fun (z, ρ3) => (again b y ρ3).bind fun y => (cmpv o2 y z).bind fun u => R.ok (.bool u, false, ρ3)) = .ok (d, fl, ρ') from e)
            obtain ⟨y', e6, e⟩ := bind_ok e
            obtain ⟨u, e7, e⟩ := bind_ok e
            cases e
            rfl
          | false =>
            have e : R.ok (PyData.bool false, false, ρ2) = .ok (d, fl, ρ') := e
            cases e
            rfl
        subst ef ed
        exact q _ H' (af.flat rfl (.bl _))
      · refine key r e fun t' H' ed af => ⟨t', rfl, ?_⟩
        subst ed
        cases et
        exact q H' af
    · cases h
  | .isn n a, e, sc, X, h, cf, hs => by
    unfold chk at h
    split at h
    · rename_i f p j pos' pos
      simp only [Bool.and_eq_true, decide_eq_true_eq] at h
      obtain ⟨rfl, h1⟩ := h
      have pa := pk_of (sE a h1 cf hs).1 fun i e => (hV_of h1 cf hs i e).1
      cases n with
      | true =>
        refine ⟨(pe_cmpR op_notN pa pe_non (nomark _)).weak fun σ H Q ⟨S, ra, ρ, d, fl, ρ', r, e, q⟩ => ?_, (pt_cmpR op_notN pa pe_non (nomark _)).weak fun σ H Q ⟨S, ra, ρ, d, fl, ρ', t, r, e, et, q⟩ => ?_⟩
        · obtain ⟨⟨x, ρ1⟩, e1, e⟩ := bind_ok e
          cases e
          refine ⟨S, ra, ρ, x, ρ', r, e1, fun v H' af hv => ⟨rfl, ?_⟩⟩
          rw [is_none (again_self af.1 e1 hv), show (!isNone x) = (true != isNone x) by cases isNone x <;> rfl]
          exact q _ H' (af.flat rfl (.bl _))
        · obtain ⟨⟨x, ρ1⟩, e1, e⟩ := bind_ok e
          cases e
          cases et
          refine ⟨S, ra, ρ, x, ρ', r, e1, fun v H' af hv => ⟨rfl, true != isNone x, ?_, q H' af⟩⟩
          rw [is_none (again_self af.1 e1 hv)]
          cases isNone x <;> rfl
      | false =>
        refine ⟨(pe_cmpR op_isN pa pe_non (nomark _)).weak fun σ H Q ⟨S, ra, ρ, d, fl, ρ', r, e, q⟩ => ?_, (pt_cmpR op_isN pa pe_non (nomark _)).weak fun σ H Q ⟨S, ra, ρ, d, fl, ρ', t, r, e, et, q⟩ => ?_⟩
        · obtain ⟨⟨x, ρ1⟩, e1, e⟩ := bind_ok e
          cases e
          refine ⟨S, ra, ρ, x, ρ', r, e1, fun v H' af hv => ⟨rfl, ?_⟩⟩
          rw [is_none (again_self af.1 e1 hv), show isNone x = (false != isNone x) by cases isNone x <;> rfl]
          exact q _ H' (af.flat rfl (.bl _))
        · obtain ⟨⟨x, ρ1⟩, e1, e⟩ := bind_ok e
          cases e
          cases et
          refine ⟨S, ra, ρ, x, ρ', r, e1, fun v H' af hv => ⟨rfl, false != isNone x, ?_, q H' af⟩⟩
          rw [is_none (again_self af.1 e1 hv)]
          cases isNone x <;> rfl
    · cases h
  | .ist n a b, e, sc, X, h, cf, hs => by
    unfold chk at h
    split at h
    · rename_i f p c j pos' pos
      simp only [Bool.and_eq_true, decide_eq_true_eq] at h
      obtain ⟨⟨rfl, h1⟩, h2⟩ := h
      have h2 : b = c := eq_of_beq h2
      subst h2
      have pa := pk_of (sE a h1 cf hs).1 fun i e => (hV_of h1 cf hs i e).1
      have key : ∀ {σ H} {S : Addr → Prop} {ra ρ d fl ρ'} {R' : V → Hp → Prop}, SR X.K S ra ρ σ H → evE refs call (.ist n a b) ρ = .ok (d, fl, ρ') → (∀ c H', d = .bool (n != (c == b)) → fl = false → Aft X.K S ra ρ σ H ρ' H' → R' (.bl c) H') → TPk X.K refs call a σ H R' := fun {σ H S ra ρ d fl ρ' R'} r e q => by
        obtain ⟨⟨x, ρ1⟩, e1, e⟩ := bind_ok e
        cases x with
        | bool c =>
          have e : R.ok (PyData.bool (n != (c == b)), false, ρ1) = .ok (d, fl, ρ') := e
          cases e
          refine ⟨S, ra, ρ, .bool c, ρ', r, e1, fun v H' af hv => ?_⟩
          rw [(again_self af.1 e1 hv).bl]
          exact q c H' rfl rfl af
        | _ => cases e
      have eb : ∀ c : Bool, (decide (c = b)) = (c == b) := fun c => by cases c <;> cases b <;> rfl
      cases n with
      | true =>
        refine ⟨(pe_cmpR op_notBl pa pe_bl (nomark _)).weak fun σ H Q ⟨S, ra, ρ, d, fl, ρ', r, e, q⟩ => ?_, (pt_cmpR op_notBl pa pe_bl (nomark _)).weak fun σ H Q ⟨S, ra, ρ, d, fl, ρ', t, r, e, et, q⟩ => ?_⟩
        · refine key r e fun c H' ed ef af => ⟨c, b, rfl, rfl, ?_⟩
          subst ed ef
          rw [eb, show (!(c == b)) = (true != (c == b)) by cases (c == b) <;> rfl]
          exact q _ H' (af.flat rfl (.bl _))
        · refine key r e fun c H' ed ef af => ⟨c, b, rfl, rfl, t, ?_, q H' af⟩
          subst ed
          cases et
          rw [eb]
          cases (c == b) <;> rfl
      | false =>
        refine ⟨(pe_cmpR op_isBl pa pe_bl (nomark _)).weak fun σ H Q ⟨S, ra, ρ, d, fl, ρ', r, e, q⟩ => ?_, (pt_cmpR op_isBl pa pe_bl (nomark _)).weak fun σ H Q ⟨S, ra, ρ, d, fl, ρ', t, r, e, et, q⟩ => ?_⟩
        · refine key r e fun c H' ed ef af => ⟨c, b, rfl, rfl, ?_⟩
          subst ed ef
          rw [eb, show (c == b) = (false != (c == b)) by cases (c == b) <;> rfl]
          exact q _ H' (af.flat rfl (.bl _))
        · refine key r e fun c H' ed ef af => ⟨c, b, rfl, rfl, t, ?_, q H' af⟩
          subst ed
          cases et
          rw [eb]
          cases (c == b) <;> rfl
    · cases h
  | .ite c a b, e, sc, X, h, cf, hs => by
    unfold chk at h
    split at h
    · rename_i f g g2 pos
      simp only [Bool.and_eq_true] at h
      obtain ⟨⟨h1, h2⟩, h3⟩ := h
      have pc := ptp_of (sE c h1 cf hs) (hV_of h1 cf hs)
      have ha := sE a h2 cf hs
      have hb := sE b h3 cf hs
      refine ⟨(pe_ifExp pc ha.1 hb.1).weak fun σ H Q ⟨S, ra, ρ, d, fl, ρ', r, e, q⟩ => ?_, ?_⟩
      · obtain ⟨⟨x, ρ1⟩, e1, e⟩ := bind_ok e
        obtain ⟨t, e2, e⟩ := bind_ok e
        refine ⟨S, ra, ρ, x, ρ1, t, r, e1, e2, fun H' af => ?_⟩
        cases t with
        | true => exact iteT ⟨S, ra, ρ1, d, fl, ρ', af.1, e, fun v H2 o => q v H2 (o.more af)⟩
        | false => exact iteF ⟨S, ra, ρ1, d, fl, ρ', af.1, e, fun v H2 o => q v H2 (o.more af)⟩
      · -- as a test
        refine ⟨fun pins s σ H Q I ⟨S, ra, ρ, d, fl, ρ', t, r, e, et, q⟩ => ?_⟩
        obtain ⟨⟨x, ρ1⟩, e1, e⟩ := bind_ok e
        obtain ⟨t', e2, e⟩ := bind_ok e
        show wpAny _ _ (PySem.isTrue (.IfExp f g g2 pos) X.env _) _ _ s
        unfold PySem.isTrue
        refine wpAny_bind (thn (pc.run pins s σ H (fun c1 H1 => c1 = t' ∧ Aft X.K S ra ρ σ H ρ1 H1) I ⟨S, ra, ρ, x, ρ1, t', r, e1, e2, fun H' af => ⟨rfl, af⟩⟩) fun c1 s1 ⟨H1, I1, ec, af⟩ => ?_)
        subst ec
        cases c1 with
        | true => exact ha.2.run pins s1 σ H1 Q I1 ⟨S, ra, ρ1, d, fl, ρ', t, af.1, e, et, fun H2 af2 => q H2 (af.trans af2)⟩
        | false => exact hb.2.run pins s1 σ H1 Q I1 ⟨S, ra, ρ1, d, fl, ρ', t, af.1, e, et, fun H2 af2 => q H2 (af.trans af2)⟩
    · cases h
  | .tup es, e, sc, X, h, cf, hs => by
    unfold chk at h
    split at h
    · rename_i fs j pos
      refine both ((pe_tup (sL es h cf hs)).weak fun σ H Q ⟨S, ra, ρ, d, fl, ρ', r, e, q⟩ => ?_) fun _ => rfl
      obtain ⟨⟨xs, ρ1⟩, e1, e⟩ := bind_ok e
      obtain ⟨c, e⟩ := ite_ok e
      cases e
      exact ⟨S, ra, ρ, xs, ρ', r, e1, fun vs H' af rp => ⟨by rw [rp.length]; exact c, fun p hp => q _ _ (af.res (.tup hp rp))⟩⟩
    · cases h
  | .lst es, e, sc, X, h, cf, hs => by
    unfold chk at h
    split at h
    · rename_i fs pos
      refine both ((pe_lst (sL es h cf hs)).weak fun σ H Q ⟨S, ra, ρ, d, fl, ρ', r, e, q⟩ => ?_) fun _ => rfl
      obtain ⟨⟨xs, ρ1⟩, e1, e⟩ := bind_ok e
      obtain ⟨c, e⟩ := ite_ok e
      cases e
      exact ⟨S, ra, ρ, xs, ρ', r, e1, fun vs H' af rp => ⟨by rw [rp.length]; exact c, fun p hp => q _ _ (af.res (.lst hp rp))⟩⟩
    · cases h
  | .idx a b, e, sc, X, h, cf, hs => by
    unfold chk at h
    split at h
    · rename_i f g pos
      simp only [Bool.and_eq_true] at h
      obtain ⟨⟨h1, h2⟩, h3⟩ := h
      have pa := pk_of (sE a h1 cf hs).1 fun i e => (hV_of h1 cf hs i e).1
      have pb := pk_of (sE b h2 cf hs).1 fun i e => (hV_of h2 cf hs i e).1
      refine both ((pe_ix ix_get pa pb (plainIx h3)).weak fun σ H Q ⟨S, ra, ρ, d, fl, ρ', r, e, q⟩ => ?_) fun _ => rfl
      obtain ⟨⟨x, ρ1⟩, e1, e⟩ := bind_ok e
      obtain ⟨⟨y, ρ2⟩, e2, e⟩ := bind_ok e
      obtain ⟨x', e3, e⟩ := bind_ok e
      obtain ⟨z, e4, e⟩ := bind_ok e
      cases e
      exact two r e1 e2 fun v w H2 af hv hw => ⟨_, x', y, d, pub_same, hv.use af.1 e3, again_self af.1 e2 hw, e4, fun v' rp => q v' H2 (af.pub rp)⟩
    · cases h
  | .call f es, e, sc, X, h, cf, hs => by
    unfold chk at h
    split at h
    · rename_i x p fs pos
      simp only [Bool.and_eq_true, decide_eq_true_eq] at h
      obtain ⟨⟨⟨h1, h2⟩, h3⟩, h4⟩ := h
      obtain ⟨a, fd, ps, g1, g2, g3, g4⟩ := cf.defs f x h1
      obtain ⟨n1, _, _⟩ := okN_ok h3
      have hp := sP es h4 cf hs
      have fin : ∀ {t : TA}, PA X fs t → (∀ σ H Q, TPs X.K refs call es σ H Q → t σ H Q) → PE X (.Call (.Name x p) fs [] pos) (tCall (spF X.K refs call f) [] E0 t) → PE X (.Call (.Name x p) fs [] pos) (TEv X.K refs call (.call f es)) := fun {t} _ ht hc =>
        hc.weak fun σ H Q ⟨S, ra, ρ, d, fl, ρ', r, e, q⟩ => by
          obtain ⟨⟨xs, ρ1⟩, e1, e⟩ := bind_ok e
          obtain ⟨ds, e2, e⟩ := bind_ok e
          refine ht σ H _ ⟨S, ra, ρ, xs, ρ1, r, e1, fun vs H1 af hv => ?_⟩
          show spF X.K refs call f (vs ++ []) H1 Q E0
          rw [List.append_nil]
          exact call_use af.1 hv e2 e af.2.1 af.2.2 q
      refine both ?_ fun _ => rfl
      cases fs with
      | nil => exact fin hp (fun _ _ _ z => z) ((pe_call0 g4 cf.room (gl_of h2 hs) g1 g2 g3 .nil pass0 n1).weak fun σ H Q z => by
          cases es with
          | nil =>
            obtain ⟨S, ra, ρ, xs, ρ', r, e, q⟩ := z
            cases e
            exact q [] H (.refl r) .nil
          | cons _ _ => unfold chkL at h4; cases h4)
      | cons g gs =>
        have hg : okX g = true := by
          cases es with
          | nil => unfold chkL at h4; cases h4
          | cons _ _ => unfold chkL at h4; simp only [Bool.and_eq_true] at h4; exact h4.1.1
        have hpl : (backTo pos (starEach gs X.env)).any (·.1) = false := by
          cases es with
          | nil => unfold chkL at h4; cases h4
          | cons _ _ => unfold chkL at h4; simp only [Bool.and_eq_true] at h4; exact noStar h4.2
        exact fin hp (fun _ _ _ z => z) (pe_call g4 cf.room (gl_of h2 hs) g1 g2 g3 .nil pass0 hp n1 (star_plain hg) hpl)
    · cases h
  | .fn b es, e, sc, X, h, cf, hs => by
    unfold chk at h
    split at h
    · rename_i x p g gs pos
      simp only [Bool.and_eq_true, decide_eq_true_eq] at h
      obtain ⟨⟨rfl, h2⟩, h4⟩ := h
      have hp := sP es h4 cf hs
      have hg : okX g = true := by
        cases es with
        | nil => unfold chkL at h4; cases h4
        | cons _ _ => unfold chkL at h4; simp only [Bool.and_eq_true] at h4; exact h4.1.1
      have hpl : (backTo pos (starEach gs X.env)).any (·.1) = false := by
        cases es with
        | nil => unfold chkL at h4; cases h4
        | cons _ _ => unfold chkL at h4; simp only [Bool.and_eq_true] at h4; exact noStar h4.2
      obtain ⟨id, hid, hb⟩ := fn_boot b
      obtain ⟨n1, _, n3⟩ := okN_ok (bn_ok _ (fn_names b))
      have hm := cf.bltn _ (fn_names b)
      have hc := call_fn (X := X) cf.room cf.calm b
      have pe : PE X (.Call (.Name (fnS b) p) (g :: gs) [] pos) (tCB (rFn X.K b) (TPs X.K refs call es)) := by
        rcases hid with hid | hid
        · rw [hid] at hc hb
          exact pe_callB hc (gl_of h2 hs) hm hb hp n3 n1 (star_plain hg) hpl
        · rw [hid] at hc hb
          exact pe_callTy hc (gl_of h2 hs) hm hb hp n3 n1 (star_plain hg) hpl
      refine both (pe.weak fun σ H Q ⟨S, ra, ρ, d, fl, ρ', r, e, q⟩ => ?_) fun _ => rfl
      obtain ⟨⟨xs, ρ1⟩, e1, e⟩ := bind_ok e
      obtain ⟨ds, e2, e⟩ := bind_ok e
      obtain ⟨z, e3, e⟩ := bind_ok e
      cases e
      exact ⟨S, ra, ρ, xs, ρ', r, e1, fun vs H1 af hv => ⟨_, ds, d, pub_same, hv.opd af.1 e2, e3, fun v rp => q v H1 (af.pub rp)⟩⟩
    · cases h
  | .slc a lo hi, e, sc, X, h, cf, hs => by
    unfold chk at h
    split at h
    · rename_i f l h2 p pos
      simp only [Bool.and_eq_true] at h
      obtain ⟨⟨h1, hl⟩, hh⟩ := h
      have pa := pk_of (sE a h1 cf hs).1 fun i e => (hV_of h1 cf hs i e).1
      have pl := sO lo hl cf hs
      have ph := sO hi hh cf hs
      refine both ((pe_slice sl_cut pa pl ph).weak fun σ H Q ⟨S, ra, ρ, d, fl, ρ', r, e, q⟩ => ?_) fun _ => rfl
      obtain ⟨⟨x, ρ1⟩, e1, e⟩ := bind_ok e
      obtain ⟨⟨l, ρ2⟩, e2, e⟩ := bind_ok e
      obtain ⟨⟨u, ρ3⟩, e3, e⟩ := bind_ok e
      obtain ⟨x', e4, e⟩ := bind_ok e
      obtain ⟨z, e5, e⟩ := bind_ok e
      cases e
      exact ⟨S, ra, ρ, x, ρ1, r, e1, fun v H1 af hv => ⟨S, ra, ρ1, l, ρ2, af.1, e2, fun H2 af2 => ⟨S, ra, ρ2, u, ρ', af2.1, e3, fun H3 af3 => ⟨_, x', d, pub_same, ((hv.mono af2.2.1).mono af3.2.1).use af3.1 e4, e5, fun v' H' rs => q v' H' (((af.trans af2).trans af3).res rs)⟩⟩⟩⟩
    · cases h
  | .srt a, e, sc, X, h, cf, hs => by
    unfold chk at h
    split at h
    · rename_i x p f pos
      simp only [Bool.and_eq_true, decide_eq_true_eq] at h
      obtain ⟨⟨⟨rfl, h2⟩, h3⟩, h4⟩ := h
      have pa := pk_of (sE a h4 cf hs).1 fun i e => (hV_of h4 cf hs i e).1
      have pe := pe_callB (p := p) (pos := pos) (call_srt cf.room) (gl_of h2 hs) (cf.bltn _ (by decide +kernel)) (by decide +kernel) (pa_cons pa pa_nil (star_plain h3)) (by decide) (by decide) (star_plain h3)
      refine both (pe.weak fun σ H Q ⟨S, ra, ρ, d, fl, ρ', r, e, q⟩ => ?_) fun _ => rfl
      obtain ⟨⟨x, ρ1⟩, e1, e⟩ := bind_ok e
      obtain ⟨z, e2, e⟩ := bind_ok e
      cases e
      obtain ⟨ys, rfl⟩ : ∃ ys, d = .list ys := by
        cases x with
        | list xs =>
          obtain ⟨_, e3⟩ := ite_ok (show (if sortB xs = true ∧ xs.length ≤ sizeLine then R.ok (PyData.list (isort xs)) else .st) = .ok d from e2)
          exact ⟨_, e3.symm⟩
        | _ => cases e2
      exact ⟨S, ra, ρ, x, ρ', r, e1, fun v H1 af hv => ⟨_, x, ys, pub_same, .cons (again_self af.1 e1 hv) .nil, e2, fun p ws hp rp => q _ _ (af.res (.lst hp rp))⟩⟩
    · cases h
  | .isi a t, e, sc, X, h, cf, hs => by
    unfold chk at h
    split at h
    · rename_i x p f y p2 pos
      simp only [Bool.and_eq_true, decide_eq_true_eq] at h
      obtain ⟨⟨⟨⟨⟨rfl, h2⟩, h3⟩, h4⟩, rfl⟩, h6⟩ := h
      have pa := pk_of (sE a h3 cf hs).1 fun i e => (hV_of h3 cf hs i e).1
      have hm : X.mg (tyS t : Str) = none := cf.bltn _ (by cases t <;> decide +kernel)
      have hb : bootBuiltins (tyS t : Str) = some (.type (tyS t)) := by cases t <;> decide +kernel
      obtain ⟨n1, _, n3⟩ := okN_ok (show okN (tyS t : Str) = true by cases t <;> decide +kernel)
      have pt := pe_bltn (pos := p2) (v := V.ty (tyS t)) (gl_of h6 hs) hm hb rfl n3 n1
      have pe := pe_callB (p := p) (pos := pos) call_isi (gl_of h2 hs) (cf.bltn _ (by decide +kernel)) (by decide +kernel) (pa_cons pa (pa_cons pt pa_nil) (star_plain h4)) (by decide) (by decide) (star_plain h4)
      refine both (pe.weak fun σ H Q ⟨S, ra, ρ, d, fl, ρ', r, e, q⟩ => ?_) fun _ => rfl
      obtain ⟨⟨x, ρ1⟩, e1, e⟩ := bind_ok e
      cases e
      exact ⟨S, ra, ρ, x, ρ', r, e1, fun v H1 af hv => ⟨v, V.ty (tyS t), _, _, isTy x t, rfl, .ty _, opd_ty pub_same (again_self af.1 e1 hv), kit_ty (isTy_kit x t), q _ H1 (af.flat rfl (.bl _))⟩⟩
    · cases h
  | .isis a ts, e, sc, X, h, cf, hs => by
    unfold chk at h
    split at h
    · rename_i x p f gs kk p2 pos
      simp only [Bool.and_eq_true, decide_eq_true_eq] at h
      obtain ⟨⟨⟨⟨⟨rfl, h2⟩, h3⟩, h4⟩, h5⟩, h6⟩ := h
      have pa := pk_of (sE a h3 cf hs).1 fun i e => (hV_of h3 cf hs i e).1
      have pt := pe_tup (pos := p2) (x1 := kk) (pa_tys cf.bltn (by rw [hs]; exact h5))
      have pe := pe_callB (p := p) (pos := pos) call_isiT (gl_of h2 hs) (cf.bltn _ (by decide +kernel)) (by decide +kernel) (pa_cons pa (pa_cons pt pa_nil) (star_plain h4)) (by decide) (by decide) (star_plain h4)
      refine both (pe.weak fun σ H Q ⟨S, ra, ρ, d, fl, ρ', r, e, q⟩ => ?_) fun _ => rfl
      obtain ⟨⟨x, ρ1⟩, e1, e⟩ := bind_ok e
      cases e
      refine ⟨S, ra, ρ, x, ρ', r, e1, fun v H1 af hv => ⟨by rw [List.length_map]; have := sizeLine_eq; omega, fun tp htp => ?_⟩⟩
      have af2 := Aft.grow af.1 (same_upd (o := .tup (ts.map fun t => V.ty (tyS t))) htp)
      exact ⟨v, tp, _, _, _, ts.any fun t => isTy x t, rfl, upd_same, clsAll ts, opd_ty pub_same (again_self af2.1 e1 (hv.mono af2.2.1)), isTys_kit x ts, q _ _ ((af.trans af2).flat rfl (.bl _))⟩
    · cases h
  | .toS l k src, e, sc, X, h, cf, hs => by
    unfold chk at h
    split at h
    · rename_i x p f pos
      simp only [Bool.and_eq_true, decide_eq_true_eq] at h
      obtain ⟨⟨⟨⟨hx, h2⟩, h3⟩, hk⟩, h4⟩ := h
      cases k with
      | seq =>
        have h4 : chkL C sc src [f] = true := h4
        have hp := sP src h4 cf hs
        have step : ∀ {σ H} {S : Addr → Prop} {ra ρ d fl ρ'} {Q : List V → Hp → Prop}, SR X.K S ra ρ σ H → evE refs call (.toS l .seq src) ρ = .ok (d, fl, ρ') → (∀ p vs H1 ys, d = (if l = true then .list ys else .tuple ys) → fl = l → Aft X.K S ra ρ σ H ρ' H1 → RepAll X.K (Pub S ρ' σ H1) vs ys → (SqL X.K H1 p vs ∨ (SqT X.K H1 p vs ∧ SqT X.K (Pub S ρ' σ H1) p vs)) → Q [.ref p] H1) → TPs X.K refs call src σ H Q := fun {σ H S ra ρ d fl ρ' Q} r e q => by
          obtain ⟨⟨xs, ρ1⟩, e1, e⟩ := bind_ok e
          obtain ⟨ds, e2, e⟩ := bind_ok e
          obtain ⟨ys, e3, e⟩ := bind_ok e
          obtain ⟨c, e⟩ := ite_ok e
          cases e
          refine ⟨S, ra, ρ, xs, ρ', r, e1, fun vs H1 af hv => ?_⟩
          have o := hv.opd af.1 e2
          have one : (∃ zs, ds = [.list zs] ∧ ys = zs) ∨ ∃ zs, ds = [.tuple zs] ∧ ys = zs := by
            cases ds with
            | nil => cases e3
            | cons d1 ds =>
              cases ds with
              | nil =>
                cases d1 with
                | list zs => cases e3; exact .inl ⟨_, rfl, rfl⟩
                | tuple zs => cases e3; exact .inr ⟨_, rfl, rfl⟩
                | _ => cases e3
              | cons _ _ => cases d1 <;> cases e3
          rcases one with ⟨zs, rfl, rfl⟩ | ⟨zs, rfl, rfl⟩
          · obtain ⟨v, rfl, o1⟩ := opd1 o
            obtain ⟨a, ws, rfl, h, rr⟩ := o1.lst pub_same
            exact q a ws H1 _ rfl rfl af rr (.inl h)
          · obtain ⟨v, rfl, o1⟩ := opd1 o
            rcases o1 with o1 | ⟨_, _, o1⟩
            · obtain ⟨a, ws, rfl, h, rr⟩ := repTup o1
              exact q a ws H1 _ rfl rfl af rr (.inr ⟨sqT_mono pub_same h, h⟩)
            · exact o1.elim
        cases l with
        | true =>
          have hx : x = ("list" : Str) := hx
          subst hx
          have pe := pe_callTy (p := p) (pos := pos) call_list_of (gl_of h2 hs) (cf.bltn _ (by decide +kernel)) boot_list hp (by decide) (by decide) (star_plain h3)
          refine both (pe.weak fun σ H Q ⟨S, ra, ρ, d, fl, ρ', r, e, q⟩ => step r e fun p vs H1 ys ed ef af rr hh => ?_) fun _ => rfl
          subst ed ef
          exact ⟨p, vs, rfl, hh.imp id And.left, fun a ha => q _ _ (af.res (.lst ha rr))⟩
        | false =>
          have hx : x = ("tuple" : Str) := hx
          subst hx
          have pe := pe_callTy (p := p) (pos := pos) call_tuple_of (gl_of h2 hs) (cf.bltn _ (by decide +kernel)) boot_tuple hp (by decide) (by decide) (star_plain h3)
          refine both (pe.weak fun σ H Q ⟨S, ra, ρ, d, fl, ρ', r, e, q⟩ => step r e fun p vs H1 ys ed ef af rr hh => ?_) fun _ => rfl
          subst ed ef
          refine ⟨p, vs, rfl, ?_⟩
          rcases hh with hh | hh
          · exact .inl ⟨hh, fun a ha => q _ _ (af.res (.tup ha rr))⟩
          · exact .inr ⟨hh.1, q _ _ (af.res (.old rfl (.tup hh.2 rr)))⟩
      | rng =>
        split at h4
        · rename_i fs hf
          obtain ⟨p2, g, gs, pos2, rfl, rfl, h5⟩ := callOf_ok hf
          have h6 := h4
          have hr := prg_of (p := p2) (pos := pos2) (gl_of h5 hs) (cf.bltn _ (by decide +kernel)) (sP src h6 cf hs) h6
          have step : ∀ {σ H} {S : Addr → Prop} {ra ρ d fl ρ'} {Q : Int → Int → Hp → Prop}, SR X.K S ra ρ σ H → evE refs call (.toS l .rng src) ρ = .ok (d, fl, ρ') → (∀ a b H1, d = (if l = true then .list (upTo a (b - a).toNat) else .tuple (upTo a (b - a).toNat)) → fl = l → Aft X.K S ra ρ σ H ρ' H1 → RgOk a b → RepAll X.K (Pub S ρ' σ H1) (rgV a b) (upTo a (b - a).toNat) → Q a b H1) →
              TPs X.K refs call src σ H fun vs H1 => (∃ n, vs = [V.int n] ∧ Q 0 n H1) ∨ ∃ i j, vs = [V.int i, V.int j] ∧ Q i j H1 := fun {σ H S ra ρ d fl ρ' Q} r e q => by
            obtain ⟨⟨xs, ρ1⟩, e1, e⟩ := bind_ok e
            obtain ⟨ds, e2, e⟩ := bind_ok e
            obtain ⟨ys, e3, e⟩ := bind_ok e
            obtain ⟨_, e⟩ := ite_ok e
            cases e
            refine ⟨S, ra, ρ, xs, ρ', r, e1, fun vs H1 af hv => ?_⟩
            have o := hv.opd af.1 e2
            have sz := sizeLine_eq
            rcases items_rng e3 with ⟨j, rfl, c, rfl⟩ | ⟨i, j, rfl, c, rfl⟩
            · obtain ⟨b1, b2⟩ := rangeOk_ok c.1
              have ej : (j - 0).toNat = j.toNat := by rw [Int.sub_zero]
              refine .inl ⟨j, opdsInt1 o, q 0 j H1 (by rw [ej]) rfl af ⟨by omega, by omega, b1, b2, by omega⟩ (repRng _)⟩
            · obtain ⟨b1, b2⟩ := rangeOk_ok c.1
              obtain ⟨b3, b4⟩ := rangeOk_ok c.2.1
              refine .inr ⟨i, j, opdsInt2 o, q i j H1 rfl rfl af ⟨b1, b2, b3, b4, by omega⟩ (repRng _)⟩
          cases l with
          | true =>
            have hx : x = ("list" : Str) := hx
            subst hx
            refine both ((pe_listRg (p := p) (pos := pos) cf.calm (gl_of h2 hs) (cf.bltn _ (by decide +kernel)) hr (star_plain h3)).weak fun σ H Q ⟨S, ra, ρ, d, fl, ρ', r, e, q⟩ => ?_) fun _ => rfl
            refine step (Q := fun a b H1 => RgOk a b ∧ ∀ q, H1 q = none → Q (.ref q) (upd H1 q (.lst (rgV a b)))) r e fun a b H1 ed ef af ok rr => ?_
            subst ed ef
            exact ⟨ok, fun l hl => q _ _ (af.res (.lst hl rr))⟩
          | false =>
            have hx : x = ("tuple" : Str) := hx
            subst hx
            refine both ((pe_tupRg (p := p) (pos := pos) cf.calm (gl_of h2 hs) (cf.bltn _ (by decide +kernel)) hr (star_plain h3)).weak fun σ H Q ⟨S, ra, ρ, d, fl, ρ', r, e, q⟩ => ?_) fun _ => rfl
            refine step (Q := fun a b H1 => RgOk a b ∧ ∀ q, H1 q = none → Q (.ref q) (upd H1 q (.tup (rgV a b)))) r e fun a b H1 ed ef af ok rr => ?_
            subst ed ef
            exact ⟨ok, fun l hl => q _ _ (af.res (.tup hl rr))⟩
        · cases h4
      | zip => cases hk
      | enm => cases hk
      | rgd => cases hk
    · cases h
  | .comp own t k src c m, e, sc, X, h, cf, hs => by
    unfold chk at h
    split at h
    · rename_i elt tg iter ifs scope pos
      simp only [Bool.and_eq_true] at h
      obtain ⟨⟨⟨⟨⟨⟨⟨h1, h2⟩, h3⟩, h4⟩, ht⟩, h5⟩, h6⟩, h7⟩ := h
      split at h5
      case h_2 => cases h5
      rename_i fs hf
      have hi : PI X tg iter (TIt X.K refs call k src) := it_of ht hf h5 (sL src h5 cf hs) (s1 src · cf hs) cf hs
      have ok : BlkOk X.N X.env.scope scope own := blkOk_by (by rw [cf.N, hs]; exact h1)
      have eb : ∀ (s : Shared) (H : Hp) (D : Addr) (cl : List (Str × Addr)) (fp : List Addr), (X.blk s H scope (compEnvC scope cl D X.env) fp).env.scope = relS scope sc := fun s H D cl fp => by rw [← hs]; rfl
      have cb := fun (s : Shared) (H : Hp) (D : Addr) (cl : List (Str × Addr)) (fp : List Addr) => cf.blk s H scope cl D fp
      have hg : ∀ (s : Shared) (H : Hp) (D : Addr) (cl : List (Str × Addr)) (fp : List Addr), PG (X.blk s H scope (compEnvC scope cl D X.env) fp) tg (TGt X.K t) := fun s H D cl fp => tg_ok t h2 (cb s H D cl fp).N cf.nd cf.calm (eb s H D cl fp) (fun x hx => hx)
      have ht : ∀ (s : Shared) (H : Hp) (D : Addr) (cl : List (Str × Addr)) (fp : List Addr), PTs (X.blk s H scope (compEnvC scope cl D X.env) fp) ifs (TCs X.K refs call c) := fun s H D cl fp => sC c h6 (cb s H D cl fp) (eb s H D cl fp)
      have he : ∀ (s : Shared) (H : Hp) (D : Addr) (cl : List (Str × Addr)) (fp : List Addr), PE (X.blk s H scope (compEnvC scope cl D X.env) fp) elt (TEv X.K refs call m) := fun s H D cl fp => (sE m h7 (cb s H D cl fp) (eb s H D cl fp)).1
      refine both ((pe_lc cf.calm cf.nd hi ok hg ht he (noFold h3)).weak fun σ H Q z => ?_) fun _ => rfl
      exact comp_of hi ok hg ht he cf.calm cf.nd (noFold h3) h4 σ H Q z
    · cases h
theorem s1 : ∀ (es : Exs) {f : Expr} {sc : Scope} {X : Cx}, chkL C sc es [f] = true → Cf C refs call k X → X.env.scope = sc → ∃ a, es = .cons a .nil ∧ PE X f (TEv X.K refs call a)
  | .nil, f, sc, X, h, cf, hs => by unfold chkL at h; cases h
  | .cons a .nil, f, sc, X, h, cf, hs => by
    unfold chkL at h
    simp only [Bool.and_eq_true] at h
    exact ⟨a, rfl, (sE a h.1.2 cf hs).1⟩
  | .cons a (.cons _ _), f, sc, X, h, cf, hs => by
    unfold chkL at h
    simp only [Bool.and_eq_true] at h
    have h2 := h.2
    unfold chkL at h2
    cases h2
theorem sO : ∀ (es : Exs) {o : Option Expr} {sc : Scope} {X : Cx}, (match o with
      | none => chkL C sc es []
      | some l => chkL C sc es [l]) = true → Cf C refs call k X → X.env.scope = sc → PO X o (TPo X.K refs call es)
  | .nil, none, sc, X, h, cf, hs => po_none.weak fun σ H Q ⟨S, ra, ρ, l, ρ', r, e, q⟩ => by
    cases e
    exact q H (.refl r)
  | .nil, some l, sc, X, h, cf, hs => by
    have h : chkL C sc .nil [l] = true := h
    unfold chkL at h; cases h
  | .cons a .nil, some l, sc, X, h, cf, hs => by
    have h : chkL C sc (.cons a .nil) [l] = true := h
    unfold chkL at h
    simp only [Bool.and_eq_true] at h
    have pa := pk_of (sE a h.1.2 cf hs).1 fun i e => (hV_of h.1.2 cf hs i e).1
    refine (po_some pa).weak fun σ H Q ⟨S, ra, ρ, l, ρ', r, e, q⟩ => ?_
    obtain ⟨⟨x, ρ1⟩, e1, e⟩ := bind_ok (show ((peek a ρ (evE refs call a ρ)).bind fun (x, ρ1) => (asInt x).bind fun i => R.ok (some i, ρ1)) = .ok (l, ρ') from e)
    obtain ⟨i, e2, e⟩ := bind_ok e
    cases e
    cases x with
    | int j =>
      cases e2
      exact ⟨S, ra, ρ, _, _, r, e1, fun v H' af hv => ⟨_, (again_self af.1 e1 hv).int, q H' af⟩⟩
    | _ => cases e2
  | .cons a as, none, sc, X, h, cf, hs => by
    have h : chkL C sc (.cons a as) [] = true := h
    unfold chkL at h; cases h
  | .cons a (.cons _ _), some l, sc, X, h, cf, hs => by
    have h : chkL C sc (.cons a (.cons _ _)) [l] = true := h
    unfold chkL at h
    simp only [Bool.and_eq_true] at h
    have h2 := h.2
    unfold chkL at h2
    cases h2
theorem sC : ∀ (es : Exs) {fs : List Expr} {sc : Scope} {X : Cx}, chkL C sc es fs = true → Cf C refs call k X → X.env.scope = sc → PTs X fs (TCs X.K refs call es)
  | .nil, [], sc, X, h, cf, hs => pts_nil.weak fun σ H Q ⟨S, ra, ρ, ρ', t, r, e, q⟩ => by
    cases e
    exact q H (.refl r)
  | .nil, _ :: _, sc, X, h, cf, hs => by unfold chkL at h; cases h
  | .cons _ _, [], sc, X, h, cf, hs => by unfold chkL at h; cases h
  | .cons a .nil, f :: fs, sc, X, h, cf, hs => by
    unfold chkL at h
    simp only [Bool.and_eq_true] at h
    obtain ⟨⟨h1, h2⟩, h3⟩ := h
    cases fs with
    | cons _ _ => unfold chkL at h3; cases h3
    | nil =>
      refine (pts_one (ptp_of (sE a h2 cf hs) (hV_of h2 cf hs))).weak fun σ H Q ⟨S, ra, ρ, ρ', t, r, e, q⟩ => ?_
      obtain ⟨⟨x, ρ1⟩, e1, e⟩ := bind_ok (show ((peek a ρ (evE refs call a ρ)).bind fun (x, ρ1) => (truth x).bind fun t => R.ok (t, ρ1)) = .ok (t, ρ') from e)
      obtain ⟨t', e2, e⟩ := bind_ok e
      cases e
      exact ⟨S, ra, ρ, x, _, _, r, e1, e2, q⟩
  | .cons a (.cons b as), fs, sc, X, h, cf, hs => ⟨fun pins s σ H Q I ⟨S, ra, ρ, ρ', t, r, e, q⟩ => by cases e⟩
theorem sP : ∀ (es : Exs) {fs : List Expr} {sc : Scope} {X : Cx}, chkL C sc es fs = true → Cf C refs call k X → X.env.scope = sc → PA X fs (TPs X.K refs call es)
  | .nil, [], sc, X, h, cf, hs => pa_nil.weak fun σ H Q ⟨S, ra, ρ, xs, ρ', r, e, q⟩ => by
    cases e
    exact q [] H (.refl r) .nil
  | .cons a as, f :: fs, sc, X, h, cf, hs => by
    unfold chkL at h
    simp only [Bool.and_eq_true] at h
    obtain ⟨⟨h1, h2⟩, h3⟩ := h
    have pa := pk_of (sE a h2 cf hs).1 fun i e => (hV_of h2 cf hs i e).1
    have pas := sP as h3 cf hs
    refine (pa_cons pa pas (star_plain h1)).weak fun σ H Q ⟨S, ra, ρ, xs, ρ', r, e, q⟩ => ?_
    obtain ⟨⟨x, ρ1⟩, e1, e⟩ := bind_ok (show ((peek a ρ (evE refs call a ρ)).bind fun (x, ρ1) => (evP refs call as ρ1).bind fun (xs, ρ2) => R.ok (x :: xs, ρ2)) = .ok (xs, ρ') from e)
    obtain ⟨⟨ys, ρ2⟩, e2, e⟩ := bind_ok e
    cases e
    exact ⟨S, ra, ρ, x, ρ1, r, e1, fun v H1 af hv => ⟨S, ra, ρ1, ys, ρ', af.1, e2, fun vs H2 af2 hvs => q (v :: vs) H2 (af.trans af2) (.cons (hv.mono af2.2.1) hvs)⟩⟩
  | .nil, _ :: _, sc, X, h, _, _ => by unfold chkL at h; cases h
  | .cons _ _, [], sc, X, h, _, _ => by unfold chkL at h; cases h
theorem sL : ∀ (es : Exs) {fs : List Expr} {sc : Scope} {X : Cx}, chkL C sc es fs = true → Cf C refs call k X → X.env.scope = sc → PA X fs (TLs X.K refs call es)
  | .nil, [], sc, X, h, cf, hs => pa_nil.weak fun σ H Q ⟨S, ra, ρ, xs, ρ', r, e, q⟩ => by
    cases e
    exact q [] H (.refl r) .nil
  | .cons a as, f :: fs, sc, X, h, cf, hs => by
    unfold chkL at h
    simp only [Bool.and_eq_true] at h
    obtain ⟨⟨h1, h2⟩, h3⟩ := h
    have pa := (sE a h2 cf hs).1
    have pas := sL as h3 cf hs
    refine (pa_cons pa pas (star_plain h1)).weak fun σ H Q ⟨S, ra, ρ, xs, ρ', r, e, q⟩ => ?_
    obtain ⟨⟨x, fx, ρ1⟩, e1, e⟩ := bind_ok (show ((evE refs call a ρ).bind fun (x, _, ρ1) => (evL refs call as ρ1).bind fun (xs, ρ2) => R.ok (x :: xs, ρ2)) = .ok (xs, ρ') from e)
    obtain ⟨⟨ys, ρ2⟩, e2, e⟩ := bind_ok e
    cases e
    refine ⟨S, ra, ρ, x, fx, ρ1, r, e1, fun v H1 o => ?_⟩
    obtain ⟨af, rp⟩ := o.aft
    exact ⟨S, ra, ρ1, ys, ρ', af.1, e2, fun vs H2 af2 hvs => q (v :: vs) H2 (af.trans af2) (.cons (rp.mono af2.2.1) hvs)⟩
  | .nil, _ :: _, sc, X, h, _, _ => by unfold chkL at h; cases h
  | .cons _ _, [], sc, X, h, _, _ => by unfold chkL at h; cases h
end
/-- all of a comprehension -/
theorem comp_all {own : List (Str × Nat)} {t : Tg} {k' : ItK} {src c : Exs} {m : Ex} {elt : Expr} {gs : List Comprehension} {scope : Scope} {pos : Pos} {sc : Scope} {X : Cx} (h : chk C sc (.comp own t k' src c m) (.ListComp elt gs scope pos) = true) (cf : Cf C refs call k X) (hs : X.env.scope = sc) :
    ∃ tg iter ifs, gs = [⟨tg, iter, ifs, 0⟩] ∧ PI X tg iter (TIt X.K refs call k' src) ∧ BlkOk X.N X.env.scope scope own ∧
      (∀ (s : Shared) (H : Hp) (D : Addr) (cl : List (Str × Addr)) (fp : List Addr), PG (X.blk s H scope (compEnvC scope cl D X.env) fp) tg (TGt X.K t)) ∧
      (∀ (s : Shared) (H : Hp) (D : Addr) (cl : List (Str × Addr)) (fp : List Addr), PTs (X.blk s H scope (compEnvC scope cl D X.env) fp) ifs (TCs X.K refs call c)) ∧
      (∀ (s : Shared) (H : Hp) (D : Addr) (cl : List (Str × Addr)) (fp : List Addr), PE (X.blk s H scope (compEnvC scope cl D X.env) fp) elt (TEv X.K refs call m)) ∧
      (∀ x, foldedSetIterable iter X.env x = pure x) ∧ ((tnames t).all fun i => decide (i ∈ own.map (·.2))) = true := by
  unfold chk at h
  split at h
  · rename_i heq
    cases heq
    simp only [Bool.and_eq_true] at h
    obtain ⟨⟨⟨⟨⟨⟨⟨h1, h2⟩, h3⟩, h4⟩, ht⟩, h5⟩, h6⟩, h7⟩ := h
    split at h5
    case h_2 => cases h5
    rename_i fs hf
    have cb := fun (s : Shared) (H : Hp) (D : Addr) (cl : List (Str × Addr)) (fp : List Addr) => cf.blk s H scope cl D fp
    have eb : ∀ (s : Shared) (H : Hp) (D : Addr) (cl : List (Str × Addr)) (fp : List Addr), (X.blk s H scope (compEnvC scope cl D X.env) fp).env.scope = relS scope sc := fun s H D cl fp => by rw [← hs]; rfl
    exact ⟨_, _, _, rfl, it_of ht hf h5 (sL src h5 cf hs) (s1 src · cf hs) cf hs, blkOk_by (by rw [cf.N, hs]; exact h1), fun s H D cl fp => tg_ok t h2 (cb s H D cl fp).N cf.nd cf.calm (eb s H D cl fp) (fun x hx => hx),
      fun s H D cl fp => sC c h6 (cb s H D cl fp) (eb s H D cl fp), fun s H D cl fp => (sE m h7 (cb s H D cl fp) (eb s H D cl fp)).1, noFold h3, h4⟩
  · cases h
end
end Fh

set_option maxHeartbeats 2000000
/-! Fh: what statements need. -/
namespace Fh
open PySem PySem.Spec PyProof.Rows L2
/-! ### stores of pairs -/
def swNames (sc : Scope) (ts : List Expr) : List Str := ts.filterMap fun
    | .Name id pos => if sc.names.lookup id == some .local && pos.line == (ts.head?.map (·.pos.line)).getD 0 then some id else none
    | _ => none
def swap (sc : Scope) (ts vs : List Expr) : Option (Option (List Str)) :=
  if (!(ts.length == 2 || ts.length == 3) || vs.length != ts.length) = true then some none
  else if (vs.any fun | .Starred .. => true | _ => false) = true then some none
  else if ((swNames sc ts).length != ts.length || (swNames sc ts).eraseDups.length != (swNames sc ts).length) = true then some none
  else if vs.all (foldedForSure 8) = true then some none
  else if vs.all (constantsAlone 8) = true then none
  else some (some (swNames sc ts))
theorem swap_ok {env : PySem.Env} {ts vs : List Expr} {k k2 : Nat} {p p2 : Pos} {o : Option (List Str)} (hk : env.scope.kind = .function) (h : swap env.scope ts vs = some o) : swappedStores [.Tuple ts k p] (.Tuple vs k2 p2) env = pure o := by
  have hb : env.blockKind = .function := by unfold Env.blockKind; rw [hk]; rfl
  have hb2 : (env.blockKind != .function) = false := by rw [hb]; rfl
  unfold swap at h
  simp only [swappedStores, hb2, Bool.or_false]
  split at h
  · rename_i c
    cases h
    exact if_pos c
  · rename_i c
    refine (if_neg c).trans ?_
    split at h
    · rename_i c2
      cases h
      exact if_pos c2
    · rename_i c2
      refine (if_neg c2).trans ?_
      split at h
      · rename_i c3
        cases h
        exact if_pos c3
      · rename_i c3
        refine (if_neg c3).trans ?_
        split at h
        · rename_i c4
          cases h
          exact if_pos c4
        · rename_i c4
          refine (if_neg c4).trans ?_
          split at h
          · cases h
          · rename_i c5
            cases h
            exact if_neg c5
theorem swap_other {env : PySem.Env} {ts : List Expr} {k : Nat} {p : Pos} {e : Expr} (h : isTup e = false) : swappedStores [.Tuple ts k p] e env = pure none := by
  cases e <;> first | rfl | cases h
theorem sole_tup {env : PySem.Env} {ts : List Expr} {k l : Nat} {p : Pos} {e : Expr} : swapsWithSole [.Tuple ts k p] e l env = pure false := by
  cases e <;> rfl
theorem sole_sub {env : PySem.Env} {a b : Expr} {l : Nat} {p : Pos} {e : Expr} : swapsWithSole [.Subscript a b p] e l env = pure false := by
  cases e <;> rfl
def isComp : Expr → Bool
  | .ListComp .. => true
  | .SetComp .. => true
  | .DictComp .. => true
  | _ => false
theorem sw_no {env : PySem.Env} {t : Option Expr} {l : Nat} {e : Expr} (h : isComp e = false) : swapsWith e t l env = pure false := by
  cases e <;> first | rfl | cases h
/-- a name that is a cell: no comprehension is stored on the spot -/
theorem sw_cell {env : PySem.Env} {x : Str} {p : Pos} {l : Nat} {e : Expr} (h : env.scope.names.lookup x = some .cell) : swapsWith e (some (.Name x p)) l env = pure false := by
  have hk : (env.kindOf x == some .local) = false := by
    have : env.kindOf x = some .cell := h
    rw [this]; rfl
  cases e <;> first | rfl | (simp [swapsWith, hk])
/-! ### a, b, .. = x, y, .. through a tuple that no one sees -/
section
variable {X : Cx} {pos : Pos}
def tParT (ta : TA) (g : TGs) : TS := fun D σ H => ta σ H fun vs H1 => g vs σ H1 D.nx
theorem ps_parT {ts es : List Expr} {ta : TA} {g : TGs} {pt pt2 : Pos} {kt k2 : Nat} (hc : X.calm = true) (ha : PA X es ta) (hg : PGs X ts g) (hl : ts.length = es.length) (hn : (assignEach ts X.env).length = ts.length) (hst : (assignEach ts X.env).findIdx? (·.1) = none)
    (hlen : ∀ σ H Q, ta σ H Q → ta σ H fun vs H1 => vs.length = ts.length ∧ Q vs H1) (hsz : ts.length ≤ 16)
    (hw : swappedStores [.Tuple ts kt pt] (.Tuple es k2 pt2) X.env = pure none) : PS X (.Assign [.Tuple ts kt pt] (.Tuple es k2 pt2) pos) (tParT ta g) := by
  refine ⟨fun pins s σ H D I h => ?_⟩
  refine wpAny_Assign_stores (Tuple_ (thn (ha.run _ pins s σ H _ I (hlen _ _ _ h)) fun us s1 ⟨vs, H1, I1, r1, hvl, q1⟩ => ?_)) sole_tup hw
  have hul : us.length = ts.length := by rw [← r1.length]; exact hvl
  have h24 := sizeLine_eq
  refine wpAny_newObj_type ?_ (by show us.toArray.size ≤ sizeLine; rw [List.size_toArray]; omega)
  have I2 : Inv X pins σ H1 { s1 with heap := s1.heap.push { cls := .type "tuple", data := .seq us.toArray } } := I1.kept (t' := s1.toks) fun b o e => Heap.get?_push_of_some _ e
  have h1 : (assignEach [.Tuple ts kt pt] X.env).map (·.2) = [assign (.Tuple ts kt pt) X.env] := rfl
  rw [h1]
  show wpAny _ _ (assign (.Tuple ts kt pt) X.env (.ref s1.heap.objs.size)) _ _ _
  refine assign_Tuple_tuple (I.ok.hd hc) (IsTup.new s1.heap _) (by simp [hn, hul]) hst fun h' hx => ?_
  have I3 := I2.kept (h' := h') (t' := s1.toks) fun b o e => hx b o (Nat.ne_of_lt (Heap.lt_size e)) e
  exact hg.run pins _ σ H1 vs _ _ I3 (by simpa using r1) q1
end
end Fh

set_option maxHeartbeats 2000000
/-! Fh: own objects taken, changed; values held in a row. -/
namespace Fh
open PySem PySem.Spec PyProof.Rows L2
section
variable {K : PySem.W.Frag} {S T : Addr → Prop} {ra : Option Addr} {ρ ρ1 ρ2 : Env} {σ σ1 σ2 : L2.St} {H H1 H2 : Hp} {a b : Addr}
def AftS (K : PySem.W.Frag) (S : Addr → Prop) (ra : Option Addr) (ρ : Env) (σ : L2.St) (H : Hp) (ρ' : Env) (σ' : L2.St) (H' : Hp) : Prop := SR K S ra ρ' σ' H' ∧ Same (Pub S ρ σ H) (Pub S ρ' σ' H') ∧ ∀ b, S b → H' b = H b
theorem AftS.refl (r : SR K S ra ρ σ H) : AftS K S ra ρ σ H ρ σ H := ⟨r, fun _ _ h => h, fun _ _ => rfl⟩
theorem AftS.trans (a : AftS K S ra ρ σ H ρ1 σ1 H1) (b : AftS K S ra ρ1 σ1 H1 ρ2 σ2 H2) : AftS K S ra ρ σ H ρ2 σ2 H2 := ⟨b.1, a.2.1.trans b.2.1, fun x h => (b.2.2 x h).trans (a.2.2 x h)⟩
theorem Aft.toS (a : Aft K S ra ρ σ H ρ1 H1) : AftS K S ra ρ σ H ρ1 σ H1 := a
theorem Sto.toS {ns : List Nat} (a : Sto K S ra ρ σ H ns ρ1 σ1) : AftS K S ra ρ σ H ρ1 σ1 H := ⟨a.1, a.2.1, fun _ _ => rfl⟩
theorem Out.moreS {σ' : L2.St} {v : V} {d : PyData} {f : Bool} (a : AftS K S ra ρ σ H ρ1 σ1 H1) (o : Out K S ra σ' (Pub S ρ1 σ1 H1) H1 v d f ρ2 H2) : Out K S ra σ' (Pub S ρ σ H) H v d f ρ2 H2 := by
  obtain ⟨k, o⟩ := o
  refine ⟨fun b hb => (k b hb).trans (a.2.2 b hb), ?_⟩
  cases f with
  | false => exact ⟨o.1, o.2.1, a.2.1.trans o.2.2⟩
  | true =>
    obtain ⟨x, e, n1, n2, r, t, s⟩ := o
    exact ⟨x, e, n1, n2, r, t, a.2.1.trans s⟩
/-- a name's own object taken from it -/
theorem SR.take (r : SR K S ra ρ σ H) {i : Nat} {d : PyData} (e : ρ[i]? = some (some (d, .ow))) :
    ∃ a, σ[i]? = some (some (V.ref a)) ∧ ¬ S a ∧ ¬ own (ρ.set i none) σ a ∧ SR K (plus S a) ra (ρ.set i none) σ H ∧ Top K H (Pub (plus S a) (ρ.set i none) σ H) a d ∧ Same (Pub S ρ σ H) (Pub (plus S a) (ρ.set i none) σ H) := by
  obtain ⟨a, ea, nS, t, _⟩ := r.ow i d .ow e (by simp)
  have back : ∀ (j : Nat) (d' : PV) (f : Fg), (ρ.set i none)[j]? = some (some (d', f)) → i ≠ j ∧ ρ[j]? = some (some (d', f)) := fun j d' f h => by
    by_cases hj : i = j
    · subst hj
      rw [List.getElem?_set_self (lt_of_get e)] at h
      cases h
    · rw [List.getElem?_set_ne hj] at h
      exact ⟨hj, h⟩
  have oi : ∀ b, own (ρ.set i none) σ b ↔ own ρ σ b ∧ b ≠ a := fun b => by
    constructor
    · rintro ⟨j, d', f, h, n, es⟩
      obtain ⟨hj, h1⟩ := back j d' f h
      refine ⟨⟨j, d', f, h1, n, es⟩, fun z => hj ?_⟩
      subst z
      exact r.inj i j b d .ow d' f e (by simp) h1 n ea es
    · rintro ⟨⟨j, d', f, h, n, es⟩, nb⟩
      by_cases hj : i = j
      · subst hj
        rw [ea] at es
        cases es
        exact absurd rfl nb
      · exact ⟨j, d', f, by rw [List.getElem?_set_ne hj]; exact h, n, es⟩
  have oa : own ρ σ a := ⟨i, d, .ow, e, by simp, ea⟩
  have pe : Pub (plus S a) (ρ.set i none) σ H = Pub S ρ σ H := hid_congr fun b => by
    rw [oi b]
    constructor
    · rintro ((h | h) | h)
      · exact .inl h
      · rw [h]; exact .inr oa
      · exact .inr h.1
    · rintro (h | h)
      · exact .inl (.inl h)
      · by_cases hb : b = a
        · exact .inl (.inr hb)
        · exact .inr ⟨h, hb⟩
  refine ⟨a, ea, nS, fun z => ((oi a).mp z).2 rfl, ⟨by rw [List.length_set]; exact r.len, fun j d' h => ?_, fun j d' f h n => ?_, fun j k x d1 f1 d2 f2 h1 n1 h2 n2 s1 s2 => r.inj j k x d1 f1 d2 f2 (back j d1 f1 h1).2 n1 (back k d2 f2 h2).2 n2 s1 s2, fun b hb => ?_⟩, ?_, ?_⟩
  · rw [pe]
    exact r.fz j d' (back j d' _ h).2
  · rw [pe]
    obtain ⟨x, h1, h2, h3, h4⟩ := r.ow j d' f (back j d' f h).2 n
    refine ⟨x, h1, fun z => z.elim h2 fun z => ?_, h3, h4⟩
    subst z
    exact (back j d' f h).1 (r.inj i j x d .ow d' f e (by simp) (back j d' f h).2 n ea h1)
  · rcases hb with hb | rfl
    · exact r.tr b hb
    · exact t.some
  · rw [pe]; exact t
  · rw [pe]; exact fun _ _ h => h
/-- a name's own object changed -/
theorem SR.put (r : SR K S ra ρ σ H) {i : Nat} {d d' : PyData} {f : Fg} {o : HO} (e : ρ[i]? = some (some (d, f))) (n : f ≠ .fz) (es : σ[i]? = some (some (V.ref a))) (t' : Top K (upd H a o) (Pub S ρ σ H) a d') : AftS K S ra ρ σ H (ρ.set i (some (d', f))) σ (upd H a o) := by
  obtain ⟨a', ea, nS, t, g4⟩ := r.ow i d f e n
  rw [es] at ea
  cases ea
  have il := lt_of_get e
  have back : ∀ (j : Nat) (d2 : PV) (f2 : Fg), (ρ.set i (some (d', f)))[j]? = some (some (d2, f2)) → f2 ≠ .fz → ∃ d3, ρ[j]? = some (some (d3, f2)) := fun j d2 f2 h n2 => by
    by_cases hj : i = j
    · subst hj
      rw [List.getElem?_set_self il] at h
      cases h
      exact ⟨d, e⟩
    · rw [List.getElem?_set_ne hj] at h
      exact ⟨d2, h⟩
  have oi : ∀ b, own (ρ.set i (some (d', f))) σ b ↔ own ρ σ b := fun b => by
    constructor
    · rintro ⟨j, d2, f2, h, n2, s2⟩
      obtain ⟨d3, h3⟩ := back j d2 f2 h n2
      exact ⟨j, d3, f2, h3, n2, s2⟩
    · rintro ⟨j, d2, f2, h, n2, s2⟩
      by_cases hj : i = j
      · subst hj
        rw [e] at h
        cases h
        exact ⟨i, d', f, List.getElem?_set_self il, n, s2⟩
      · exact ⟨j, d2, f2, by rw [List.getElem?_set_ne hj]; exact h, n2, s2⟩
  have oa : own ρ σ a := ⟨i, d, f, e, n, es⟩
  have pe : Pub S (ρ.set i (some (d', f))) σ (upd H a o) = Pub S ρ σ H := by
    have h1 : Pub S (ρ.set i (some (d', f))) σ (upd H a o) = Pub S ρ σ (upd H a o) := hid_congr fun b => or_congr Iff.rfl (oi b)
    rw [h1]
    funext b
    unfold Pub Hid
    by_cases hb : S b ∨ own ρ σ b
    · rw [if_pos hb, if_pos hb]
    · rw [if_neg hb, if_neg hb, upd_ne (show b ≠ a from fun e => hb (.inr (by rw [e]; exact oa)))]
  refine ⟨⟨by rw [List.length_set]; exact r.len, fun j d2 h => ?_, fun j d2 f2 h n2 => ?_, fun j k x d1 f1 d2 f2 h1 n1 h2 n2 s1 s2 => ?_, fun b hb => ?_⟩, by rw [pe]; exact fun _ _ h => h, fun b hb => upd_ne fun e => nS (by rw [← e]; exact hb)⟩
  · rw [pe]
    by_cases hj : i = j
    · subst hj
      rw [List.getElem?_set_self il] at h
      cases h
      exact absurd rfl n
    · rw [List.getElem?_set_ne hj] at h
      exact r.fz j d2 h
  · rw [pe]
    by_cases hj : i = j
    · subst hj
      rw [List.getElem?_set_self il] at h
      cases h
      exact ⟨a, es, nS, t', g4⟩
    · rw [List.getElem?_set_ne hj] at h
      obtain ⟨x, h1, h2, h3, h4⟩ := r.ow j d2 f2 h n2
      refine ⟨x, h1, h2, h3.mono (upd_ne fun z => ?_) (fun _ _ h => h), h4⟩
      subst z
      exact hj (r.inj i j x d f d2 f2 e n h n2 es h1)
  · obtain ⟨d3, h3⟩ := back j d1 f1 h1 n1
    obtain ⟨d4, h4⟩ := back k d2 f2 h2 n2
    exact r.inj j k x d3 f1 d4 f2 h3 n1 h4 n2 s1 s2
  · have : b ≠ a := fun e => nS (by rw [← e]; exact hb)
    rw [upd_ne this]
    exact r.tr b hb
/-! ### values held in a row, each with who holds it -/
def Hold (K : PySem.W.Frag) (A H : Hp) : (Addr → Prop) → (Addr → Prop) → List V → List (PV × Bool) → Prop
  | T, S, [], [] => ∀ b, T b ↔ S b
  | T, S, v :: vs, (d, f) :: xs => if f = true then ∃ a T', v = V.ref a ∧ (∀ b, T b ↔ T' b ∨ b = a) ∧ ¬ T' a ∧ Top K H A a d ∧ Hold K A H T' S vs xs else Rep K A v d ∧ Hold K A H T S vs xs
  | _, _, _, _ => False
theorem Hold.sub {A : Hp} : ∀ {vs : List V} {xs : List (PV × Bool)} {T S : Addr → Prop}, Hold K A H T S vs xs → ∀ b, S b → T b
  | [], [], T, S, h, b, hb => (h b).mpr hb
  | v :: vs, (d, f) :: xs, T, S, h, b, hb => by
    cases f with
    | false => exact Hold.sub h.2 b hb
    | true =>
      obtain ⟨a, T', _, hT, _, _, h'⟩ := h
      exact (hT b).mpr (.inl (Hold.sub h' b hb))
  | [], _ :: _, _, _, h, _, _ => h.elim
  | _ :: _, [], _, _, h, _, _ => h.elim
theorem Hold.mono {A B : Hp} (s : Same A B) : ∀ {vs : List V} {xs : List (PV × Bool)} {T S : Addr → Prop}, (∀ b, T b → H1 b = H b) → Hold K A H T S vs xs → Hold K B H1 T S vs xs
  | [], [], T, S, k, h => h
  | v :: vs, (d, f) :: xs, T, S, k, h => by
    cases f with
    | false => exact ⟨h.1.mono s, Hold.mono s k h.2⟩
    | true =>
      obtain ⟨a, T', e, hT, nT, t, h'⟩ := h
      exact ⟨a, T', e, hT, nT, t.mono (k a ((hT a).mpr (.inr rfl))) s, Hold.mono s (fun b hb => k b ((hT b).mpr (.inl hb))) h'⟩
  | [], _ :: _, _, _, _, h => h.elim
  | _ :: _, [], _, _, _, h => h.elim
/-- one of the hidden, out of the row -/
theorem Hold.less {A : Hp} : ∀ {vs : List V} {xs : List (PV × Bool)} {T : Addr → Prop}, ¬ S a → Hold K A H T (plus S a) vs xs → Hold K A H (fun b => T b ∧ b ≠ a) S vs xs
  | [], [], T, nS, h => fun b => by
    constructor
    · rintro ⟨h1, h2⟩
      exact ((h b).mp h1).elim id fun z => absurd z h2
    · intro hb
      exact ⟨(h b).mpr (.inl hb), fun e => nS (by rw [← e]; exact hb)⟩
  | v :: vs, (d, f) :: xs, T, nS, h => by
    cases f with
    | false => exact ⟨h.1, Hold.less nS h.2⟩
    | true =>
      obtain ⟨x, T', e, hT, nT, t, h'⟩ := h
      have ha : T' a := Hold.sub h' a (.inr rfl)
      have ne : x ≠ a := fun z => nT (by rw [z]; exact ha)
      refine ⟨x, fun b => T' b ∧ b ≠ a, e, fun b => ?_, fun z => nT z.1, t, Hold.less nS h'⟩
      constructor
      · rintro ⟨h1, h2⟩
        exact ((hT b).mp h1).imp (fun z => ⟨z, h2⟩) id
      · rintro (⟨h1, h2⟩ | h1)
        · exact ⟨(hT b).mpr (.inl h1), h2⟩
        · subst h1
          exact ⟨(hT b).mpr (.inr rfl), ne⟩
  | [], _ :: _, _, _, h => h.elim
  | _ :: _, [], _, _, h => h.elim
theorem Hold.length {A : Hp} : ∀ {vs : List V} {xs : List (PV × Bool)} {T S : Addr → Prop}, Hold K A H T S vs xs → vs.length = xs.length
  | [], [], _, _, _ => rfl
  | v :: vs, (d, f) :: xs, T, S, h => by
    cases f with
    | false => exact congrArg (· + 1) (Hold.length h.2)
    | true =>
      obtain ⟨_, _, _, _, _, _, h'⟩ := h
      exact congrArg (· + 1) (Hold.length h')
  | [], _ :: _, _, _, h => h.elim
  | _ :: _, [], _, _, h => h.elim
/-- behind a row of values -/
def OutL (K : PySem.W.Frag) (S : Addr → Prop) (ra : Option Addr) (σ : L2.St) (P0 H0 : Hp) (vs : List V) (xs : List (PV × Bool)) (ρ' : Env) (H' : Hp) : Prop :=
  ∃ T, SR K T ra ρ' σ H' ∧ Hold K (Pub T ρ' σ H') H' T S vs xs ∧ Same P0 (Pub T ρ' σ H') ∧ ∀ b, S b → H' b = H0 b
theorem OutL.consF {P0 H0 : Hp} {v : V} {d : PyData} {vs : List V} {xs : List (PV × Bool)} (k : ∀ b, S b → H1 b = H0 b) (h : Rep K (Pub S ρ1 σ H1) v d) (s : Same P0 (Pub S ρ1 σ H1)) (q : OutL K S ra σ (Pub S ρ1 σ H1) H1 vs xs ρ2 H2) : OutL K S ra σ P0 H0 (v :: vs) ((d, false) :: xs) ρ2 H2 := by
  obtain ⟨T, r2, h2, s2, k2⟩ := q
  exact ⟨T, r2, ⟨h.mono s2, h2⟩, s.trans s2, fun b hb => (k2 b hb).trans (k b hb)⟩
theorem OutL.consT {P0 H0 : Hp} {d : PyData} {vs : List V} {xs : List (PV × Bool)} (k : ∀ b, S b → H1 b = H0 b) (n1 : ¬ S a) (t : Top K H1 (Pub (plus S a) ρ1 σ H1) a d) (s : Same P0 (Pub (plus S a) ρ1 σ H1)) (q : OutL K (plus S a) ra σ (Pub (plus S a) ρ1 σ H1) H1 vs xs ρ2 H2) : OutL K S ra σ P0 H0 (V.ref a :: vs) ((d, true) :: xs) ρ2 H2 := by
  obtain ⟨T, r2, h2, s2, k2⟩ := q
  refine ⟨T, r2, ⟨a, fun b => T b ∧ b ≠ a, rfl, fun b => ?_, fun z => z.2 rfl, t.mono (k2 a (.inr rfl)) s2, Hold.less n1 h2⟩, s.trans s2, fun b hb => (k2 b (.inl hb)).trans (k b hb)⟩
  constructor
  · intro hb
    by_cases e : b = a
    · exact .inr e
    · exact .inl ⟨hb, e⟩
  · rintro (hb | hb)
    · exact hb.1
    · rw [hb]; exact Hold.sub h2 a (.inr rfl)
/-- the stores, one after another -/
theorem store_row : ∀ {vs : List V} {xs : List (PV × Bool)} {is : List Nat} {ρ ρ' : Env} {σ : L2.St} {T : Addr → Prop}, SR K T ra ρ σ H → Hold K (Pub T ρ σ H) H T S vs xs → asgP is xs ρ = .ok ρ' →
    SR K S ra ρ' ((is.zip vs).foldl (fun s p => s.set p.1 (some p.2)) σ) H ∧ Same (Pub T ρ σ H) (Pub S ρ' ((is.zip vs).foldl (fun s p => s.set p.1 (some p.2)) σ) H)
  | [], [], is, ρ, ρ', σ, T, r, h, e => by
    cases is with
    | cons _ _ => cases e
    | nil =>
      cases e
      have hT : T = S := funext fun b => propext (h b)
      subst hT
      exact ⟨r, fun _ _ h => h⟩
  | v :: vs, (d, f) :: xs, is, ρ, ρ', σ, T, r, h, e => by
    cases is with
    | nil => cases e
    | cons i is =>
      obtain ⟨hi, e⟩ := (show i < ρ.length ∧ asgP is xs (ρ.set i (some (d, fgOf f))) = .ok ρ' by
        have e : (if i < ρ.length then asgP is xs (ρ.set i (some (d, fgOf f))) else R.st) = .ok ρ' := e
        by_cases c : i < ρ.length
        · rw [if_pos c] at e; exact ⟨c, e⟩
        · rw [if_neg c] at e; cases e)
      cases f with
      | false =>
        obtain ⟨h1, h2⟩ := h
        obtain ⟨r1, s1⟩ := r.setz hi h1
        obtain ⟨r2, s2⟩ := store_row r1 (h2.mono s1 fun _ _ => rfl) e
        exact ⟨r2, s1.trans s2⟩
      | true =>
        obtain ⟨a, T', rfl, hT, nT, t, h'⟩ := h
        have eT : T = plus T' a := funext fun b => propext (hT b)
        subst eT
        have nO : ¬ own ρ σ a := fun z => (r.ownS z).2 (.inr rfl)
        obtain ⟨r1, s1⟩ := SR.seto r nT nO hi t
        obtain ⟨r2, s2⟩ := store_row r1 (h'.mono s1 fun _ _ => rfl) e
        exact ⟨r2, s1.trans s2⟩
  | [], _ :: _, _, _, _, _, _, _, h, _ => h.elim
  | _ :: _, [], _, _, _, _, _, _, h, _ => h.elim
end
end Fh

set_option maxHeartbeats 2000000
/-! Fh: THE THEOREM for statements. -/
namespace Fh
open PySem PySem.Spec PyProof.Rows L2
def tgsOf : List Nat → Tgs
  | [] => .nil
  | i :: is => .cons (.v i) (tgsOf is)
def swapK (sc : Scope) (x : Str) (p : Pos) (f : Expr) : Bool := match f with
  | .ListComp _ _ scope lpos => decide (sc.names.lookup x = some .cell) || (decide (sc.names.lookup x = some .local) && (p.line == lpos.line) && !(scope.names.any fun (n, k) => n == x && (k == .local || k == .cell)))
  | .SetComp .. => false
  | .DictComp .. => false
  | _ => true
def mtS : Mt → Str
  | .append => "append"
  | .extend => "extend"
def parC (sc : Scope) (is : List Nat) (ts fs : List Expr) : Bool :=
  decide (ts.length = fs.length) && (decide (swap sc ts fs = some none) || (match is, ts with
    | [i, j], [.Name x _, .Name y _] => decide (swap sc ts fs = some (some [x, y])) && decide (i ≠ j) && decide (sc.names.lookup x = some .local) && decide (sc.names.lookup y = some .local)
    | [i, j, l], [.Name x _, .Name y _, .Name z _] => decide (swap sc ts fs = some (some [x, y, z])) && decide (i ≠ j) && decide (i ≠ l) && decide (j ≠ l) && decide (sc.names.lookup x = some .local) && decide (sc.names.lookup y = some .local) && decide (sc.names.lookup z = some .local)
    | _, _ => false))
mutual
def chkS (C : Ck) (sc : Scope) : Sm → Stmt → Bool
  | .asg t e, st => match st with
    | .Assign [.Name x p] f _ => chkG C.N sc (fun _ => true) t (.Name x p) && chk C sc e f && swapK sc x p f
    | .Assign [.Tuple ts k p] f _ => chkG C.N sc (fun _ => true) t (.Tuple ts k p) && chk C sc e f && !isTup f
    | _ => false
  | .par is es, st => match st with
    | .Assign [.Tuple ts _ _] (.Tuple fs _ _) _ => chkGs C.N sc (fun _ => true) (tgsOf is) ts && chkL C sc es fs && decide (ts.length ≤ 16) && parC sc is ts fs
    | _ => false
  | .seti i k e, st => match st with
    | .Assign [.Subscript (.Name x p) g _] f _ => chk C sc (.v i) (.Name x p) && chk C sc k g && okX g && chk C sc e f
    | _ => false
  | .aug i o e, st => match st with
    | .AugAssign (.Name x p) op f _ => chkG C.N sc (fun _ => true) (.v i) (.Name x p) && decide (op = opr o) && (decide (o = .add) || decide (o = .sub)) && chk C sc e f
    | _ => false
  | .ex e, st => match st with
    | .Expr f _ => chk C sc e f && !isComp f
    | _ => false
  | .mut m i e, st => match st with
    | .Expr (.Call (.Attribute (.Name x p) name apos) [f] [] cpos) _ => chk C sc (.v i) (.Name x p) && decide (name = mtS m) && (apos.endLine == cpos.line) && okX f && chk C sc e f
    | _ => false
  | .ret e, st => match st with
    | .Return (some f) _ => chk C sc e f
    | _ => false
  | .ite c a b, st => match st with
    | .If f as bs _ => chk C sc c f && chkSs C sc a as && chkSs C sc b bs
    | _ => false
  | .for_ t k src b, st => match st with
    | .For tg iter body [] _ => chkG C.N sc (fun _ => true) t tg && okX iter && tgFor k tg && (match srcOf k sc iter with
        | some fs => chkL C sc src fs
        | none => false) && chkSs C sc b body
    | _ => false
  | .whl c b, st => match st with
    | .While f body [] _ => chk C sc c f && chkSs C sc b body
    | _ => false
  | .brk, st => match st with
    | .Break _ => true
    | _ => false
  | .cnt, st => match st with
    | .Continue _ => true
    | _ => false
  | .pass, st => match st with
    | .Pass _ => true
    | _ => false
  | .rz _ _, _ => true
def chkSs (C : Ck) (sc : Scope) : Sms → List Stmt → Bool
  | .nil, sts => match sts with
    | [] => true
    | _ => false
  | .cons s ss, sts => match sts with
    | st :: sts => chkS C sc s st && chkSs C sc ss sts
    | [] => false
end
section
variable (K : PySem.W.Frag) (refs : Refs) (call : Calls) (fuel : Nat)
def Gets (S : Addr → Prop) (ra : Option Addr) (ρ : Env) (σ : L2.St) (H : Hp) (D : Ends) : Fl → Prop
  | .nx ρ' => ∀ σ' H', AftS K S ra ρ σ H ρ' σ' H' → D.nx σ' H'
  | .br ρ' => ∀ σ' H', AftS K S ra ρ σ H ρ' σ' H' → D.bk σ' H'
  | .ct ρ' => ∀ σ' H', AftS K S ra ρ σ H ρ' σ' H' → D.ct σ' H'
  | .rt d f ρ' => ∀ v H' σ', Out K S ra σ' (Pub S ρ σ H) H v d f ρ' H' → D.rt v H'
def TSv (m : Sm) : TS := fun D σ H => ∃ S ra ρ fl, SR K S ra ρ σ H ∧ evS refs call fuel m ρ = .ok fl ∧ Gets K S ra ρ σ H D fl
def TSvs (ms : Sms) : TS := fun D σ H => ∃ S ra ρ fl, SR K S ra ρ σ H ∧ evSs refs call fuel ms ρ = .ok fl ∧ Gets K S ra ρ σ H D fl
def TFs (es : Exs) : TA := fun σ H Q => ∃ S ra ρ xs ρ', SR K S ra ρ σ H ∧ evF refs call es ρ = .ok (xs, ρ') ∧ ∀ vs H', OutL K S ra σ (Pub S ρ σ H) H vs xs ρ' H' → Q vs H'
end
section
variable {refs : Refs} {call : Calls} {C : Ck} {k fuel : Nat} {K : PySem.W.Frag} {S : Addr → Prop} {ra : Option Addr} {ρ ρ1 : Env} {σ σ1 : L2.St} {H H1 : Hp}
theorem Gets.aft {D : Ends} {fl : Fl} (a : AftS K S ra ρ σ H ρ1 σ1 H1) (g : Gets K S ra ρ σ H D fl) : Gets K S ra ρ1 σ1 H1 D fl := by
  cases fl with
  | nx ρ' => exact fun σ' H' b => g σ' H' (a.trans b)
  | br ρ' => exact fun σ' H' b => g σ' H' (a.trans b)
  | ct ρ' => exact fun σ' H' b => g σ' H' (a.trans b)
  | rt d f ρ' => exact fun v H' σ' o => g v H' σ' (o.moreS a)
theorem evF_len : ∀ {es : Exs} {fs : List Expr} {sc : Scope} {ρ ρ' : Env} {xs : List (PV × Bool)}, chkL C sc es fs = true → evF refs call es ρ = .ok (xs, ρ') → xs.length = fs.length
  | .nil, fs, sc, ρ, ρ', xs, h, e => by
    cases fs with
    | nil => cases e; rfl
    | cons _ _ => unfold chkL at h; cases h
  | .cons a as, fs, sc, ρ, ρ', xs, h, e => by
    cases fs with
    | nil => unfold chkL at h; cases h
    | cons f fs =>
      unfold chkL at h
      simp only [Bool.and_eq_true] at h
      obtain ⟨⟨x, fx, ρ1⟩, e1, e⟩ := bind_ok (show ((evE refs call a ρ).bind fun (x, f, ρ1) => (evF refs call as ρ1).bind fun (xs, ρ2) => R.ok ((x, f) :: xs, ρ2)) = .ok (xs, ρ') from e)
      obtain ⟨⟨ys, ρ2⟩, e2, e⟩ := bind_ok e
      cases e
      exact congrArg (· + 1) (evF_len (es := as) h.2 e2)
theorem sF : ∀ (es : Exs) {fs : List Expr} {sc : Scope} {X : Cx}, chkL C sc es fs = true → Cf C refs call k X → X.env.scope = sc → PA X fs (TFs X.K refs call es)
  | .nil, [], sc, X, h, cf, hs => pa_nil.weak fun σ H Q ⟨S, ra, ρ, xs, ρ', r, e, q⟩ => by
    cases e
    exact q [] H ⟨S, r, fun b => Iff.rfl, fun _ _ h => h, fun _ _ => rfl⟩
  | .cons a as, f :: fs, sc, X, h, cf, hs => by
    unfold chkL at h
    simp only [Bool.and_eq_true] at h
    obtain ⟨⟨h1, h2⟩, h3⟩ := h
    have pa := (sE a h2 cf hs).1
    have pas := sF as h3 cf hs
    refine (pa_cons pa pas (star_plain h1)).weak fun σ H Q ⟨S, ra, ρ, xs, ρ', r, e, q⟩ => ?_
    obtain ⟨⟨x, fx, ρ1⟩, e1, e⟩ := bind_ok (show ((evE refs call a ρ).bind fun (x, f, ρ1) => (evF refs call as ρ1).bind fun (xs, ρ2) => R.ok ((x, f) :: xs, ρ2)) = .ok (xs, ρ') from e)
    obtain ⟨⟨ys, ρ2⟩, e2, e⟩ := bind_ok e
    cases e
    refine ⟨S, ra, ρ, x, fx, ρ1, r, e1, fun v H1 o => ?_⟩
    obtain ⟨kk, o⟩ := o
    cases fx with
    | true =>
      obtain ⟨a', rfl, n1, n2, r2, t2, s2⟩ := o
      exact ⟨plus S a', ra, ρ1, ys, ρ', r2, e2, fun vs H2 ol => q _ H2 (OutL.consT kk n1 t2 s2 ol)⟩
    | false =>
      obtain ⟨r2, h2, s2⟩ := o
      exact ⟨S, ra, ρ1, ys, ρ', r2, e2, fun vs H2 ol => q _ H2 (OutL.consF kk h2 s2 ol)⟩
  | .nil, _ :: _, sc, X, h, _, _ => by unfold chkL at h; cases h
  | .cons _ _, [], sc, X, h, _, _ => by unfold chkL at h; cases h
/-- a statement's context -/
structure Cs (C : Ck) (refs : Refs) (call : Calls) (k : Nat) (X : Cx) : Prop extends Cf C refs call k X where
  own : PassesOwn (model X.prog X.w) X.A X.env X.xe
  fn : ∀ x, X.fn x = true
  kind : X.env.scope.kind = .function
theorem asg_v {i : Nat} {d : PV} {fg : Fg} {ρ ρ' : Env} (e : asgT (.v i) d fg ρ = .ok ρ') : i < ρ.length ∧ ρ' = ρ.set i (some (d, fg)) := by
  obtain ⟨c, e⟩ := ite_ok (show (if i < ρ.length then R.ok (ρ.set i (some (d, fg))) else .st) = .ok ρ' from e)
  exact ⟨c, e.symm⟩
theorem Out.stoS {H0 : Hp} {v : V} {d : PyData} {f : Bool} {i : Nat} {ρ0 : Env} (o : Out K S ra σ (Pub S ρ0 σ H0) H0 v d f ρ H) (hi : i < ρ.length) : AftS K S ra ρ0 σ H0 (ρ.set i (some (d, fgOf f))) (σ.set i (some v)) H := by
  obtain ⟨r, s⟩ := o.store hi
  exact ⟨r, s, o.keep⟩
theorem tgsOf_names : ∀ is : List Nat, tsnames (tgsOf is) = is
  | [] => rfl
  | i :: is => congrArg (i :: ·) (tgsOf_names is)
/-- plain names, one after another -/
theorem names_ok : ∀ {is : List Nat} {ts : List Expr} {sc : Scope} {X : Cx}, chkGs C.N sc (fun _ => true) (tgsOf is) ts = true → Cs C refs call k X → X.env.scope = sc →
    PGs X ts (fun vs σ H Q => vs.length = is.length ∧ Q ((is.zip vs).foldl (fun s p => s.set p.1 (some p.2)) σ) H) ∧ (assignEach ts X.env).length = ts.length ∧ (assignEach ts X.env).findIdx? (·.1) = none ∧ is.length = ts.length
  | [], [], sc, X, h, cs, hs => by
    refine ⟨pgs_nil.weak fun vs σ H Q ⟨e, q⟩ => ?_, rfl, rfl, rfl⟩
    cases vs with
    | nil => exact ⟨rfl, q⟩
    | cons _ _ => cases e
  | i :: is, t :: ts, sc, X, h, cs, hs => by
    have h : chkGs C.N sc (fun _ => true) (.cons (.v i) (tgsOf is)) (t :: ts) = true := h
    unfold chkGs at h
    simp only [Bool.and_eq_true] at h
    obtain ⟨⟨h1, h2⟩, h3⟩ := h
    unfold chkG at h2
    split at h2
    · rename_i x pos
      simp only [Bool.and_eq_true, Bool.or_eq_true, decide_eq_true_eq] at h2
      obtain ⟨h4, h5⟩ := h2
      subst hs
      have hl : Loc X.env.scope x := h5.elim .inl fun z => .inr z.1
      obtain ⟨p, n1, n2, n3⟩ := names_ok (is := is) (ts := ts) h3 cs rfl
      have ea := asgE (es := ts) (env := X.env) (e := .Name x pos) rfl
      refine ⟨(pgs_cons (pg_name (pos := pos) cs.nd (by rw [cs.N]; exact h4) hl (.inl (cs.fn x))) p (by rw [ea]; rfl)).weak fun vs σ H Q ⟨e, q⟩ => ?_, by rw [ea, List.length_cons, n1, List.length_cons], by rw [ea]; simp [List.findIdx?_cons, n2], congrArg (· + 1) n3⟩
      cases vs with
      | nil => cases e
      | cons v vs => exact ⟨v, vs, rfl, Nat.succ.inj e, q⟩
    · cases h2
  | [], _ :: _, sc, X, h, _, _ => by
    have h : chkGs C.N sc (fun _ => true) .nil (_ :: _) = true := h
    unfold chkGs at h; cases h
  | _ :: _, [], sc, X, h, _, _ => by
    have h : chkGs C.N sc (fun _ => true) (.cons (.v _) (tgsOf _)) [] = true := h
    unfold chkGs at h; cases h
end
end Fh

set_option maxHeartbeats 4000000
/-! Fh: THE THEOREM for statements. -/
namespace Fh
open PySem PySem.Spec PyProof.Rows L2
section
variable {refs : Refs} {call : Calls} {C : Ck} {k fuel : Nat} {K : PySem.W.Frag} {S : Addr → Prop} {ra : Option Addr} {ρ ρ1 : Env} {σ σ1 : L2.St} {H H1 : Hp}
/-- a name's store behind an expression -/
theorem asg_use {e : Ex} {i : Nat} {D : Ends} {X : Cx} (z : TSv X.K refs call fuel (.asg (.v i) e) D σ H) : TEv X.K refs call e σ H fun v H1 => gName i v σ H1 D.nx := by
  obtain ⟨S, ra, ρ, fl, r, ev, g⟩ := z
  obtain ⟨⟨d, f, ρ1⟩, e1, ev⟩ := bind_ok (show ((evE refs call e ρ).bind fun (d, f, ρ1) => (asgT (.v i) d (fgOf f) ρ1).bind fun ρ2 => R.ok (Fl.nx ρ2)) = .ok fl from ev)
  obtain ⟨ρ2, e2, ev⟩ := bind_ok ev
  cases ev
  obtain ⟨hi, rfl⟩ := asg_v e2
  exact ⟨S, ra, ρ, d, f, ρ1, r, e1, fun v H' o => g _ H' (o.stoS hi)⟩
theorem s_asgN {t : Tg} {e : Ex} {x : Str} {p pos : Pos} {f : Expr} {sc : Scope} {X : Cx} (h1 : chkG C.N sc (fun _ => true) t (.Name x p) = true) (h2 : chk C sc e f = true) (h3 : swapK sc x p f = true) (cs : Cs C refs call k X) (hs : X.env.scope = sc) :
    PS X (.Assign [.Name x p] f pos) (TSv X.K refs call fuel (.asg t e)) := by
  cases t with
  | t ts => unfold chkG at h1; cases h1
  | v i =>
    unfold chkG at h1
    simp only [Bool.and_eq_true, Bool.or_eq_true, decide_eq_true_eq] at h1
    obtain ⟨h4, h5⟩ := h1
    subst hs
    have hl : Loc X.env.scope x := h5.elim .inl fun z => .inr z.1
    have hi : X.N[i]? = some x := by rw [cs.N]; exact h4
    have plain : swapsWith f (some (.Name x p)) pos.line X.env = pure false → PS X (.Assign [.Name x p] f pos) (TSv X.K refs call fuel (.asg (.v i) e)) := fun hw =>
      (ps_set cs.nd hi hl (sE e h2 cs.toCf rfl).1 hw (.inl (cs.fn x))).weak fun D σ H z => asg_use z
    have other : isComp f = false → PS X (.Assign [.Name x p] f pos) (TSv X.K refs call fuel (.asg (.v i) e)) := fun hf => plain (sw_no hf)
    cases f with
    | SetComp => cases h3
    | DictComp => cases h3
    | ListComp elt gs scope lpos =>
      by_cases hc : X.env.scope.names.lookup x = some .cell
      · exact plain (sw_cell hc)
      · have h3 : (decide (X.env.scope.names.lookup x = some .cell) || (decide (X.env.scope.names.lookup x = some .local) && (p.line == lpos.line) && !(scope.names.any fun (n, k) => n == x && (k == .local || k == .cell)))) = true := h3
        rw [decide_eq_false hc, Bool.false_or] at h3
        simp only [Bool.and_eq_true, decide_eq_true_eq, Bool.not_eq_true'] at h3
        obtain ⟨⟨g1, g2⟩, g3⟩ := h3
        cases e with
        | comp own t k' src c m =>
          obtain ⟨tg, iter, ifs, rfl, hi', ok, hg, ht, he, nf, tn⟩ := comp_all h2 cs.toCf rfl
          exact (ps_setLc cs.calm cs.nd hi g1 (sw_true cs.kind g1 g2 g3) hi' ok hg ht he nf).weak fun D σ H z => comp_of hi' ok hg ht he cs.calm cs.nd nf tn σ H _ (asg_use z)
        | _ => unfold chk at h2; cases h2
    | _ => exact other rfl
theorem par_foldl2 {i j : Nat} {v w : V} {σ : L2.St} : ([i, j].zip [v, w]).foldl (fun s p => s.set p.1 (some p.2)) σ = (σ.set i (some v)).set j (some w) := rfl
/-- behind a row's stores -/
theorem par_use {is : List Nat} {es : Exs} {D : Ends} {X : Cx} (z : TSv X.K refs call fuel (.par is es) D σ H) : TFs X.K refs call es σ H fun vs H1 => vs.length = is.length ∧ D.nx ((is.zip vs).foldl (fun s p => s.set p.1 (some p.2)) σ) H1 := by
  obtain ⟨S, ra, ρ, fl, r, ev, g⟩ := z
  obtain ⟨⟨xs, ρ1⟩, e1, ev⟩ := bind_ok (show ((evF refs call es ρ).bind fun (ds, ρ1) => (asgP is ds ρ1).bind fun ρ2 => R.ok (Fl.nx ρ2)) = .ok fl from ev)
  obtain ⟨ρ2, e2, ev⟩ := bind_ok ev
  cases ev
  refine ⟨S, ra, ρ, xs, ρ1, r, e1, fun vs H' ⟨T, r2, h2, s2, k2⟩ => ?_⟩
  obtain ⟨r3, s3⟩ := store_row r2 h2 e2
  have len : ∀ {is : List Nat} {xs : List (PV × Bool)} {ρ ρ' : Env}, asgP is xs ρ = .ok ρ' → is.length = xs.length := by
    intro is
    induction is with
    | nil =>
      intro xs ρ ρ' e
      cases xs with
      | nil => rfl
      | cons _ _ => cases e
    | cons i is ih =>
      intro xs ρ ρ' e
      cases xs with
      | nil => cases e
      | cons x xs =>
        obtain ⟨d, f⟩ := x
        have e : (if i < ρ.length then asgP is xs (ρ.set i (some (d, fgOf f))) else R.st) = .ok ρ' := e
        by_cases c : i < ρ.length
        · rw [if_pos c] at e
          exact congrArg (· + 1) (ih e)
        · rw [if_neg c] at e; cases e
  exact ⟨h2.length.trans (len e2).symm, g _ H' ⟨r3, s2.trans s3, k2⟩⟩
theorem s_par {is : List Nat} {es : Exs} {ts fs : List Expr} {kt k2 : Nat} {pt p2 pos : Pos} {sc : Scope} {X : Cx} (h1 : chkGs C.N sc (fun _ => true) (tgsOf is) ts = true) (h2 : chkL C sc es fs = true) (h3 : ts.length ≤ 16) (h4 : parC sc is ts fs = true) (cs : Cs C refs call k X) (hs : X.env.scope = sc) :
    PS X (.Assign [.Tuple ts kt pt] (.Tuple fs k2 p2) pos) (TSv X.K refs call fuel (.par is es)) := by
  obtain ⟨pg, n1, n2, n3⟩ := names_ok h1 cs hs
  have pa := sF es h2 cs.toCf hs
  subst hs
  unfold parC at h4
  rw [Bool.and_eq_true, Bool.or_eq_true] at h4
  obtain ⟨h5, h4⟩ := h4
  have h5 := of_decide_eq_true h5
  rcases h4 with h4 | h4
  · have hw := swap_ok (k := kt) (k2 := k2) (p := pt) (p2 := p2) cs.kind (of_decide_eq_true h4)
    refine (ps_parT cs.calm pa pg h5 n1 n2 (fun σ H Q ⟨S, ra, ρ, xs, ρ', r, e, q⟩ => ⟨S, ra, ρ, xs, ρ', r, e, fun vs H' ol => ⟨?_, q vs H' ol⟩⟩) h3 hw).weak fun D σ H z => par_use z
    obtain ⟨T, _, h6, _, _⟩ := ol
    rw [h6.length, evF_len h2 e, h5]
  · split at h4
    · rename_i i j x px y py _
      simp only [Bool.and_eq_true, decide_eq_true_eq] at h4
      obtain ⟨⟨⟨g1, g2⟩, g3⟩, g4⟩ := h4
      have hw := swap_ok (k := kt) (k2 := k2) (p := pt) (p2 := p2) cs.kind g1
      have nm : ∀ {i : Nat} {x : Str} {p : Pos} {e : Bool}, (chkG C.N X.env.scope (fun _ => true) (.v i) (.Name x p) && e) = true → X.N[i]? = some x := fun {i x p e} h => by
        rw [Bool.and_eq_true] at h
        have h := h.1
        unfold chkG at h
        simp only [Bool.and_eq_true, decide_eq_true_eq] at h
        rw [cs.N]; exact h.1
      match fs, h5, h2, pa, hw with
      | [a, b], _, h2, pa, hw =>
        have h1 : chkGs C.N X.env.scope (fun _ => true) (.cons (.v i) (.cons (.v j) .nil)) [.Name x px, .Name y py] = true := h1
        unfold chkGs at h1
        have h1' := h1
        rw [Bool.and_eq_true] at h1
        have h6 := h1.2
        unfold chkGs at h6
        simp only [Bool.and_eq_true] at h1 h6
        have i1 := nm (e := true) (by rw [Bool.and_true]; exact h1.1.2)
        have i2 := nm (e := true) (by rw [Bool.and_true]; exact h6.1.2)
        exact (ps_par cs.calm cs.nd i1 i2 g2 g3 g4 pa hw sole_tup).weak fun D σ H z => by
          obtain ⟨S, ra, ρ, xs, ρ', r, e, q⟩ := par_use z
          refine ⟨S, ra, ρ, xs, ρ', r, e, fun vs H' ol => ?_⟩
          obtain ⟨l, q⟩ := q vs H' ol
          match vs, l, q with
          | [v, w], _, q => exact ⟨v, w, rfl, q⟩
    · rename_i i j l x px y py w pw _
      simp only [Bool.and_eq_true, decide_eq_true_eq] at h4
      obtain ⟨⟨⟨⟨⟨⟨g1, g2⟩, g3⟩, g4⟩, g5⟩, g6⟩, g7⟩ := h4
      have hw := swap_ok (k := kt) (k2 := k2) (p := pt) (p2 := p2) cs.kind g1
      have nm : ∀ {i : Nat} {x : Str} {p : Pos} {e : Bool}, (chkG C.N X.env.scope (fun _ => true) (.v i) (.Name x p) && e) = true → X.N[i]? = some x := fun {i x p e} h => by
        rw [Bool.and_eq_true] at h
        have h := h.1
        unfold chkG at h
        simp only [Bool.and_eq_true, decide_eq_true_eq] at h
        rw [cs.N]; exact h.1
      match fs, h5, h2, pa, hw with
      | [a, b, c], _, h2, pa, hw =>
        have h1 : chkGs C.N X.env.scope (fun _ => true) (.cons (.v i) (.cons (.v j) (.cons (.v l) .nil))) [.Name x px, .Name y py, .Name w pw] = true := h1
        unfold chkGs at h1
        rw [Bool.and_eq_true] at h1
        have h6 := h1.2
        unfold chkGs at h6
        rw [Bool.and_eq_true] at h6
        have h8 := h6.2
        unfold chkGs at h8
        simp only [Bool.and_eq_true] at h1 h6 h8
        have i1 := nm (e := true) (by rw [Bool.and_true]; exact h1.1.2)
        have i2 := nm (e := true) (by rw [Bool.and_true]; exact h6.1.2)
        have i3 := nm (e := true) (by rw [Bool.and_true]; exact h8.1.2)
        exact (ps_par3 cs.calm cs.nd i1 i2 i3 g2 g3 g4 g5 g6 g7 pa hw sole_tup).weak fun D σ H z => by
          obtain ⟨S, ra, ρ, xs, ρ', r, e, q⟩ := par_use z
          refine ⟨S, ra, ρ, xs, ρ', r, e, fun vs H' ol => ?_⟩
          obtain ⟨l, q⟩ := q vs H' ol
          match vs, l, q with
          | [u, v, w], _, q => exact ⟨u, v, w, rfl, q⟩
    · cases h4
/-- x[k] = e -/
theorem s_seti {i : Nat} {kx e : Ex} {x : Str} {p q pos : Pos} {g f : Expr} {sc : Scope} {X : Cx} (h1 : chk C sc (.v i) (.Name x p) = true) (h2 : chk C sc kx g = true) (h3 : okX g = true) (h4 : chk C sc e f = true) (cs : Cs C refs call k X) (hs : X.env.scope = sc) :
    PS X (.Assign [.Subscript (.Name x p) g q] f pos) (TSv X.K refs call fuel (.seti i kx e)) := by
  have pk := pk_of (sE kx h2 cs.toCf hs).1 fun i e => (hV_of h2 cs.toCf hs i e).1
  have ha : ∀ v, assign (.Subscript (.Name x p) g q) X.env v = (do
      let ov ← holding [v] (eval (.Name x p) X.env)
      let iv ← holding [v, ov] (eval g X.env)
      standAt q
      holding [v, ov, iv] (setItem ov iv v)
      release [v, ov, iv] []) := fun v => by
    cases g <;> first | rfl | cases h3
  refine (ps_asg (sE e h4 cs.toCf hs).1 (pg_sub (s_var h1 cs.toCf hs) pk set_list ha) sole_sub rfl rfl).weak fun D σ H ⟨S, ra, ρ, fl, r, ev, gg⟩ => ?_
  obtain ⟨⟨d, f, ρ1⟩, e1, ev⟩ := bind_ok (show ((evE refs call e ρ).bind fun (d, _, ρ1) => (getv ρ1 i).bind fun _ => (peek kx ρ1 (evE refs call kx ρ1)).bind fun (j, ρ2) => (putV ρ2 i fun x => setI x j d).bind fun ρ3 => R.ok (Fl.nx ρ3)) = .ok fl from ev)
  obtain ⟨d0, e0, ev⟩ := bind_ok ev
  obtain ⟨⟨j, ρ2⟩, e2, ev⟩ := bind_ok ev
  obtain ⟨ρ3, e3, ev⟩ := bind_ok ev
  cases ev
  refine ⟨S, ra, ρ, d, f, ρ1, r, e1, fun v H1 o => ?_⟩
  obtain ⟨af, rp⟩ := o.aft
  obtain ⟨vo, hv, _⟩ := af.1.opd e0
  refine ⟨vo, hv, S, ra, ρ1, j, ρ2, af.1, e2, fun vk H2 af2 hk => ?_⟩
  have ok := again_self af2.1 e2 hk
  unfold putV at e3
  split at e3
  · rename_i dx fg ei
    by_cases hf : fg = .fz
    · rw [if_pos hf] at e3; cases e3
    · rw [if_neg hf] at e3
      obtain ⟨d', e4, e5⟩ := bind_ok e3
      cases e5
      obtain ⟨a, ea, nS, t, _⟩ := af2.1.ow i dx fg ei hf
      rw [hv] at ea
      cases ea
      cases dx with
      | list xs =>
        cases j with
        | int jj =>
          obtain ⟨vs, ha, rv⟩ := t
          have e4 : (match L2.ixN xs.length jj with
            | some j => R.ok (PyData.list (xs.set j d))
            | none => .st) = .ok d' := e4
          cases hj : L2.ixN xs.length jj with
          | none => rw [hj] at e4; cases e4
          | some j =>
            rw [hj] at e4
            cases e4
            have rp2 := rp.mono af2.2.1
            have rs := rv.set rp2 j
            refine ⟨a, vs, jj, j, rfl, ok.int, ha, by rw [rv.length]; exact hj, gg _ _ ((af.trans af2).toS.trans (af2.1.put (o := .lst (vs.set j v)) ei hf hv ⟨_, upd_same, rs⟩))⟩
        | _ => cases e4
      | _ => cases j <;> cases e4
  · cases e3
/-- x += e -/
theorem s_aug {i : Nat} {o : Op2} {e : Ex} {x : Str} {p pos : Pos} {op : Operator} {f : Expr} {sc : Scope} {X : Cx} (h1 : chkG C.N sc (fun _ => true) (.v i) (.Name x p) = true) (h2 : op = opr o) (h3 : o = .add ∨ o = .sub) (h4 : chk C sc e f = true) (cs : Cs C refs call k X) (hs : X.env.scope = sc) :
    PS X (.AugAssign (.Name x p) op f pos) (TSv X.K refs call fuel (.aug i o e)) := by
  have pe := pk_of (sE e h4 cs.toCf hs).1 fun i e => (hV_of h4 cs.toCf hs i e).1
  unfold chkG at h1
  simp only [Bool.and_eq_true, Bool.or_eq_true, decide_eq_true_eq] at h1
  obtain ⟨g1, g2⟩ := h1
  subst hs h2
  have hl : Loc X.env.scope x := g2.elim .inl fun z => .inr z.1
  have key : ∀ {ti : TIp} {fn : Int → Int → Int}, PIp X (opr o) (ipI fn) → (∀ a b z, arith o (.int a) (.int b) = .ok z → z = .int (fn a b)) → PS X (.AugAssign (.Name x p) (opr o) f pos) (TSv X.K refs call fuel (.aug i o e)) := fun {_ fn} hp hz =>
    (ps_aug cs.nd (by rw [cs.N]; exact g1) hl pe hp (.inl (cs.fn x))).weak fun D σ H ⟨S, ra, ρ, fl, r, ev, gg⟩ => by
      obtain ⟨d0, e0, ev⟩ := bind_ok (show ((getv ρ i).bind fun x => (peek e ρ (evE refs call e ρ)).bind fun (y, ρ1) => (asInt x).bind fun a => (asInt y).bind fun b => (arith o (.int a) (.int b)).bind fun z => (asgT (.v i) z .fz ρ1).bind fun ρ2 => R.ok (Fl.nx ρ2)) = .ok fl from ev)
      obtain ⟨⟨y, ρ1⟩, e1, ev⟩ := bind_ok ev
      obtain ⟨a, e2, ev⟩ := bind_ok ev
      obtain ⟨b, e3, ev⟩ := bind_ok ev
      obtain ⟨z, e4, ev⟩ := bind_ok ev
      obtain ⟨ρ2, e5, ev⟩ := bind_ok ev
      cases ev
      obtain ⟨v, hv, ov⟩ := r.opd e0
      cases d0 with
      | int a' =>
        cases e2
        cases y with
        | int b' =>
          cases e3
          obtain rfl := ov.int
          obtain rfl := hz _ _ _ e4
          obtain ⟨hi, rfl⟩ := asg_v e5
          refine ⟨_, hv, S, ra, ρ, _, ρ1, r, e1, fun w H1 af hw => ⟨_, _, rfl, (again_self af.1 e1 hw).int, gg _ _ (af.toS.trans ?_)⟩⟩
          obtain ⟨r1, s1⟩ := af.1.setz hi (.int _)
          exact ⟨r1, s1, fun _ _ => rfl⟩
        | _ => cases e3
      | _ => cases e2
  rcases h3 with rfl | rfl
  · exact key (ti := ipI fun i j => i + j) ip_add fun a b z e => by cases e; rfl
  · exact key (ti := ipI fun i j => i - j) ip_sub fun a b z e => by cases e; rfl
/-- xs.append(e) -/
theorem s_mut {m : Mt} {i : Nat} {e : Ex} {x name : Str} {p apos cpos pos : Pos} {f : Expr} {sc : Scope} {X : Cx} (h1 : chk C sc (.v i) (.Name x p) = true) (h2 : name = mtS m) (h3 : (apos.endLine == cpos.line) = true) (h4 : okX f = true) (h5 : chk C sc e f = true) (cs : Cs C refs call k X) (hs : X.env.scope = sc) :
    PS X (.Expr (.Call (.Attribute (.Name x p) name apos) [f] [] cpos) pos) (TSv X.K refs call fuel (.mut m i e)) := by
  subst h2
  cases m with
  | append =>
    have few : ((backTo cpos (starEach [f] X.env)).all (fun x => !x.1) && (backToKw cpos (keywordEach [] X.env)).all (fun x => x.1.isSome)
      && decide (([f] : List Expr).length + ([] : List Keyword).length + (if ([] : List Keyword).isEmpty then 0 else 1) < 30)) = true := by
      rw [star_plain h4]; rfl
    have pe := pe_bm (cpos := cpos) F.plainAttrs_list F.slot_list_append F.type_list_append (mt_append (X := X)) (s_var h1 cs.toCf hs) (pa_cons (sE e h5 cs.toCf hs).1 pa_nil (star_plain h4)) rfl few h3 (star_plain h4) rfl
    refine (ps_expr pe (sw_no rfl)).weak fun D σ H ⟨S, ra, ρ, fl, r, ev, gg⟩ => ?_
    obtain ⟨d0, e0, ev⟩ := bind_ok (show ((R.guard (ownL ρ i)).bind fun _ => (evE refs call e ρ).bind fun (d, _, ρ1) => (putV ρ1 i fun x => mutV .append x d).bind fun ρ2 => R.ok (Fl.nx ρ2)) = .ok fl from ev)
    obtain ⟨⟨d, fd, ρ1⟩, e1, ev⟩ := bind_ok ev
    obtain ⟨ρ2, e2, ev⟩ := bind_ok ev
    cases ev
    obtain ⟨e0, _⟩ := ite_ok (show (if ownL ρ i = true then R.ok () else R.st) = .ok d0 from e0)
    unfold ownL at e0
    split at e0
    · rename_i l0 f0 ei0
      obtain ⟨a, hv, nS, t0, _⟩ := r.ow i _ f0 ei0 (of_decide_eq_true e0)
      obtain ⟨vs0, ha0, _⟩ := t0
      refine ⟨V.ref a, hv, .inl ⟨rfl, vs0, SqL.of ha0⟩, S, ra, ρ, d, fd, ρ1, r, e1, fun v H1 o => ?_⟩
      obtain ⟨af, rp⟩ := o.aft
      unfold putV at e2
      split at e2
      · rename_i dx fg ei
        by_cases hf : fg = .fz
        · rw [if_pos hf] at e2; cases e2
        · rw [if_neg hf] at e2
          obtain ⟨d', e4, e5⟩ := bind_ok e2
          cases e5
          obtain ⟨a2, ea, nS2, t, _⟩ := af.1.ow i dx fg ei hf
          rw [hv] at ea
          cases ea
          cases dx with
          | list xs =>
            obtain ⟨vs, ha, rv⟩ := t
            obtain ⟨c, e4⟩ := ite_ok (show (if xs.length < sizeLine then R.ok (PyData.list (xs ++ [d])) else .st) = .ok d' from e4)
            subst e4
            refine ⟨a, vs, v, rfl, rfl, ha, by rw [rv.length]; exact c, gg _ _ (af.toS.trans (af.1.put (o := .lst (vs ++ [v])) ei hf hv ⟨_, upd_same, rv.append (.cons rp .nil)⟩))⟩
          | _ => cases e4
      · cases e2
    · cases e0
  | extend =>
    refine ⟨fun pins s σ H D I ⟨S, ra, ρ, fl, r, ev, gg⟩ => ?_⟩
    obtain ⟨d0, e0, ev⟩ := bind_ok (show ((R.guard (ownL ρ i)).bind fun _ => (evE refs call e ρ).bind fun (d, _, ρ1) => (putV ρ1 i fun x => mutV .extend x d).bind fun ρ2 => R.ok (Fl.nx ρ2)) = .ok fl from ev)
    obtain ⟨⟨d, fd, ρ1⟩, e1, ev⟩ := bind_ok ev
    obtain ⟨ρ2, e2, ev⟩ := bind_ok ev
    unfold putV at e2
    split at e2
    · rename_i dx fg ei
      by_cases hf : fg = .fz
      · rw [if_pos hf] at e2; cases e2
      · rw [if_neg hf] at e2
        obtain ⟨d', e4, e5⟩ := bind_ok e2
        cases dx <;> cases e4
    · cases e2
/-- return e -/
theorem s_ret {e : Ex} {f : Expr} {pos : Pos} {sc : Scope} {X : Cx} (h : chk C sc e f = true) (cs : Cs C refs call k X) (hs : X.env.scope = sc) : PS X (.Return (some f) pos) (TSv X.K refs call fuel (.ret e)) := by
  by_cases hv : ∃ i, e = .v i
  · obtain ⟨i, rfl⟩ := hv
    refine (ps_ret (s_var h cs.toCf hs)).weak fun D σ H ⟨S, ra, ρ, fl, r, ev, gg⟩ => ?_
    obtain ⟨⟨d, f, ρ1⟩, e1, ev⟩ := bind_ok (show ((evR refs call (.v i) ρ).bind fun (d, f, ρ1) => R.ok (Fl.rt d f ρ1)) = .ok fl from ev)
    cases ev
    unfold evR at e1
    dsimp only at e1
    split at e1
    · rename_i d0 ei
      cases e1
      obtain ⟨a, ea, nS, nO, r1, t, s⟩ := r.take ei
      exact ⟨_, ea, gg _ H σ ⟨fun _ _ => rfl, a, rfl, nS, nO, r1, t, s⟩⟩
    · rename_i d0 ei
      cases e1
      obtain ⟨v, ea, rp⟩ := r.fz i d ei
      exact ⟨v, ea, gg v H σ ⟨fun _ _ => rfl, r, rp, fun _ _ h => h⟩⟩
    · cases e1
  · have hv : ∀ i, e ≠ .v i := fun i z => hv ⟨i, z⟩
    refine (ps_ret (sE e h cs.toCf hs).1).weak fun D σ H ⟨S, ra, ρ, fl, r, ev, gg⟩ => ?_
    obtain ⟨⟨d, f, ρ1⟩, e1, ev⟩ := bind_ok (show ((evR refs call e ρ).bind fun (d, f, ρ1) => R.ok (Fl.rt d f ρ1)) = .ok fl from ev)
    cases ev
    have e1 : evE refs call e ρ = .ok (d, f, ρ1) := by
      cases e <;> first | exact e1 | exact absurd rfl (hv _)
    exact ⟨S, ra, ρ, d, f, ρ1, r, e1, fun v H' o => gg v H' σ o⟩
/-- a test -/
theorem tst_of {e : Ex} {f : Expr} {sc : Scope} {X : Cx} (h : chk C sc e f = true) (cs : Cs C refs call k X) (hs : X.env.scope = sc) : PT X f (fun σ H Q => ∃ S ra ρ ρ' t, SR X.K S ra ρ σ H ∧ evT refs call e ρ = .ok (t, ρ') ∧ ∀ H', Aft X.K S ra ρ σ H ρ' H' → Q t H') := by
  refine (ptp_of (sE e h cs.toCf hs) (hV_of h cs.toCf hs)).weak fun σ H Q ⟨S, ra, ρ, ρ', t, r, e1, q⟩ => ?_
  obtain ⟨⟨x, ρ1⟩, e2, e1⟩ := bind_ok (show ((peek e ρ (evE refs call e ρ)).bind fun (x, ρ1) => (truth x).bind fun t => R.ok (t, ρ1)) = .ok (t, ρ') from e1)
  obtain ⟨t', e3, e1⟩ := bind_ok e1
  cases e1
  exact ⟨S, ra, ρ, x, ρ', t, r, e2, e3, q⟩
/-- for -/
theorem for_use {K : PySem.W.Frag} {t : Tg} {k' : ItK} {src : Exs} {b : Sms} {D : Ends} (z : TSv K refs call fuel (.for_ t k' src b) D σ H) : tFor (TIt K refs call k' src) (TGt K t) (TSvs K refs call fuel b) D σ H := by
  obtain ⟨S, ra, ρ, fl, r, ev, gg⟩ := z
  obtain ⟨⟨ds, ρ1⟩, e1, ev⟩ := bind_ok (show ((evL refs call src ρ).bind fun (ds, ρ1) => (items k' ds).bind fun xs => forF t (fun ρ => evSs refs call fuel b ρ) xs ρ1) = .ok fl from ev)
  obtain ⟨xs, e2, ev⟩ := bind_ok ev
  refine ⟨S, ra, ρ, ds, ρ1, xs, r, e1, e2, fun J H1 af ⟨G, Y, w, hG, hY⟩ => ?_⟩
  refine for_it w (fun i σi Hi => ∃ ρi, AftS K S ra ρ σ H ρi σi Hi ∧ Same (Pub S ρ1 σ H1) (Pub S ρi σi Hi) ∧ forF t (fun ρ => evSs refs call fuel b ρ) (xs.drop i) ρi = .ok fl) ?_ ?_ ?_ ?_
  · exact ⟨ρ1, af.toS, fun _ _ h => h, ev⟩
  · rintro i σi Hi hi ⟨ρi, a1, s1, _⟩
    exact hG Hi (s1.trans pub_same)
  · rintro i x σi Hi H' hi ⟨ρi, a1, s1, ef⟩ y
    obtain ⟨dx, hx⟩ : ∃ dx, xs[i]? = some dx := ⟨xs[i], List.getElem?_eq_getElem hi⟩
    have hd : xs.drop i = dx :: xs.drop (i + 1) := by
      rw [List.drop_eq_getElem_cons hi]
      rw [List.getElem?_eq_getElem hi] at hx
      cases hx
      rfl
    rw [hd] at ef
    obtain ⟨ρ2, g1, ef⟩ := bind_ok (show ((asgT t dx .fz ρi).bind fun ρ1 => (evSs refs call fuel b ρ1).bind fun
      | .nx ρ2 => forF t (fun ρ => evSs refs call fuel b ρ) (xs.drop (i + 1)) ρ2
      | .ct ρ2 => forF t (fun ρ => evSs refs call fuel b ρ) (xs.drop (i + 1)) ρ2
      | .br ρ2 => R.ok (.nx ρ2)
      | .rt d f ρ2 => R.ok (.rt d f ρ2)) = .ok fl from ef)
    obtain ⟨fl1, g2, ef⟩ := bind_ok ef
    obtain ⟨afy, rx⟩ := Goes.step a1.1 s1 (hY i Hi x H' dx (s1.trans pub_same) hx y)
    refine ⟨S, ra, ρi, dx, ρ2, afy.1, g1, rx, fun σ2 st => ⟨S, ra, ρ2, fl1, st.1, g2, ?_⟩⟩
    have a2 : AftS K S ra ρ σ H ρ2 σ2 H' := (a1.trans afy.toS).trans st.toS
    have s2 : Same (Pub S ρ1 σ H1) (Pub S ρ2 σ2 H') := (s1.trans afy.2.1).trans st.2.1
    cases fl1 with
    | nx ρ3 => exact fun σ3 H3 a3 => ⟨ρ3, a2.trans a3, s2.trans a3.2.1, ef⟩
    | ct ρ3 => exact fun σ3 H3 a3 => ⟨ρ3, a2.trans a3, s2.trans a3.2.1, ef⟩
    | br ρ3 =>
      have ef : R.ok (Fl.nx ρ3) = .ok fl := ef
      cases ef
      exact fun σ3 H3 a3 => gg σ3 H3 (a2.trans a3)
    | rt d f ρ3 =>
      have ef : R.ok (Fl.rt d f ρ3) = .ok fl := ef
      cases ef
      exact fun v H3 σ3 o => gg v H3 σ3 (o.moreS a2)
  · rintro σn Hn ⟨ρn, a1, s1, ef⟩
    rw [List.drop_length] at ef
    have ef : R.ok (Fl.nx ρn) = .ok fl := ef
    cases ef
    exact gg σn Hn a1
/-- while -/
theorem whl_use {K : PySem.W.Frag} {c : Ex} {b : Sms} {D : Ends} (z : TSv K refs call fuel (.whl c b) D σ H) : tWhile (fun σ H Q => ∃ S ra ρ ρ' t, SR K S ra ρ σ H ∧ evT refs call c ρ = .ok (t, ρ') ∧ ∀ H', Aft K S ra ρ σ H ρ' H' → Q t H') (TSvs K refs call fuel b) D σ H := by
  obtain ⟨S, ra, ρ, fl, r, ev, gg⟩ := z
  have ev : whileF (fun ρ => evT refs call c ρ) (fun ρ => evSs refs call fuel b ρ) fuel ρ = .ok fl := ev
  refine ⟨fun m σm Hm => ∃ ρm, AftS K S ra ρ σ H ρm σm Hm ∧ whileF (fun ρ => evT refs call c ρ) (fun ρ => evSs refs call fuel b ρ) m ρm = .ok fl, ⟨fuel, ρ, .refl r, ev⟩, ?_⟩
  rintro m σm Hm ⟨ρm, a1, em⟩
  cases m with
  | zero => cases em
  | succ m =>
    obtain ⟨⟨t, ρ1⟩, e1, em⟩ := bind_ok (show ((evT refs call c ρm).bind fun (t, ρ1) => if t = true then (evSs refs call fuel b ρ1).bind fun
      | .nx ρ2 => whileF (fun ρ => evT refs call c ρ) (fun ρ => evSs refs call fuel b ρ) m ρ2
      | .ct ρ2 => whileF (fun ρ => evT refs call c ρ) (fun ρ => evSs refs call fuel b ρ) m ρ2
      | .br ρ2 => R.ok (.nx ρ2)
      | .rt d f ρ2 => R.ok (.rt d f ρ2) else R.ok (.nx ρ1)) = .ok fl from em)
    refine ⟨S, ra, ρm, ρ1, t, a1.1, e1, fun H1 af => ?_⟩
    cases t with
    | false =>
      have em : R.ok (Fl.nx ρ1) = .ok fl := em
      cases em
      exact iteF (gg σm H1 (a1.trans af.toS))
    | true =>
      refine iteT ⟨fun σ' H' => ∃ ρm, AftS K S ra ρ σ H ρm σ' H' ∧ whileF (fun ρ => evT refs call c ρ) (fun ρ => evSs refs call fuel b ρ) m ρm = .ok fl, fun σ' H' p => ⟨m, Nat.lt_succ_self m, p⟩, ?_⟩
      obtain ⟨fl1, g2, ef⟩ := bind_ok (show ((evSs refs call fuel b ρ1).bind fun
        | .nx ρ2 => whileF (fun ρ => evT refs call c ρ) (fun ρ => evSs refs call fuel b ρ) m ρ2
        | .ct ρ2 => whileF (fun ρ => evT refs call c ρ) (fun ρ => evSs refs call fuel b ρ) m ρ2
        | .br ρ2 => R.ok (.nx ρ2)
        | .rt d f ρ2 => R.ok (.rt d f ρ2)) = .ok fl from em)
      refine ⟨S, ra, ρ1, fl1, af.1, g2, ?_⟩
      have a2 := a1.trans af.toS
      cases fl1 with
      | nx ρ3 => exact fun σ3 H3 a3 => ⟨ρ3, a2.trans a3, ef⟩
      | ct ρ3 => exact fun σ3 H3 a3 => ⟨ρ3, a2.trans a3, ef⟩
      | br ρ3 =>
        have ef : R.ok (Fl.nx ρ3) = .ok fl := ef
        cases ef
        exact fun σ3 H3 a3 => gg σ3 H3 (a2.trans a3)
      | rt d f ρ3 =>
        have ef : R.ok (Fl.rt d f ρ3) = .ok fl := ef
        cases ef
        exact fun v H3 σ3 o => gg v H3 σ3 (o.moreS a2)
mutual
theorem sS : ∀ (m : Sm) {st : Stmt} {sc : Scope} {X : Cx}, chkS C sc m st = true → Cs C refs call k X → X.env.scope = sc → PS X st (TSv X.K refs call fuel m)
  | .asg t e, st, sc, X, h, cs, hs => by
    unfold chkS at h
    split at h
    · simp only [Bool.and_eq_true] at h
      exact s_asgN h.1.1 h.1.2 h.2 cs hs
    · rename_i ts kk p f pos
      simp only [Bool.and_eq_true, Bool.not_eq_true'] at h
      obtain ⟨⟨h1, h2⟩, h3⟩ := h
      have pg := tg_ok t h1 cs.N cs.nd cs.calm hs fun x _ => cs.fn x
      refine (ps_asg (sE e h2 cs.toCf hs).1 pg sole_tup (swap_other h3) rfl).weak fun D σ H ⟨S, ra, ρ, fl, r, ev, gg⟩ => ?_
      have nv : ∀ i, t ≠ .v i := fun i z => by
        subst z
        unfold chkG at h1
        cases h1
      have ev : ((evE refs call e ρ).bind fun (d, _, ρ1) => (asgT t d .fz ρ1).bind fun ρ2 => R.ok (Fl.nx ρ2)) = .ok fl := by
        cases t with
        | v i => exact absurd rfl (nv i)
        | t ts => exact ev
      obtain ⟨⟨d, f, ρ1⟩, e1, ev⟩ := bind_ok ev
      obtain ⟨ρ2, e2, ev⟩ := bind_ok ev
      cases ev
      refine ⟨S, ra, ρ, d, f, ρ1, r, e1, fun v H1 o => ?_⟩
      obtain ⟨af, rp⟩ := o.aft
      exact ⟨S, ra, ρ1, d, ρ2, af.1, e2, rp, fun σ2 st => gg σ2 H1 (af.toS.trans st.toS)⟩
    · cases h
  | .par is es, st, sc, X, h, cs, hs => by
    unfold chkS at h
    split at h
    · simp only [Bool.and_eq_true, decide_eq_true_eq] at h
      exact s_par h.1.1.1 h.1.1.2 h.1.2 h.2 cs hs
    · cases h
  | .seti i kx e, st, sc, X, h, cs, hs => by
    unfold chkS at h
    split at h
    · simp only [Bool.and_eq_true] at h
      exact s_seti h.1.1.1 h.1.1.2 h.1.2 h.2 cs hs
    · cases h
  | .aug i o e, st, sc, X, h, cs, hs => by
    unfold chkS at h
    split at h
    · simp only [Bool.and_eq_true, Bool.or_eq_true, decide_eq_true_eq] at h
      exact s_aug h.1.1.1 h.1.1.2 h.1.2 h.2 cs hs
    · cases h
  | .ex e, st, sc, X, h, cs, hs => by
    unfold chkS at h
    split at h
    · simp only [Bool.and_eq_true, Bool.not_eq_true'] at h
      refine (ps_expr (sE e h.1 cs.toCf hs).1 (sw_no h.2)).weak fun D σ H ⟨S, ra, ρ, fl, r, ev, gg⟩ => ?_
      obtain ⟨⟨d, f, ρ1⟩, e1, ev⟩ := bind_ok (show ((evE refs call e ρ).bind fun (_, _, ρ1) => R.ok (Fl.nx ρ1)) = .ok fl from ev)
      cases ev
      exact ⟨S, ra, ρ, d, f, ρ1, r, e1, fun v H1 o => gg σ H1 o.aft.1.toS⟩
    · cases h
  | .mut m i e, st, sc, X, h, cs, hs => by
    unfold chkS at h
    split at h
    · simp only [Bool.and_eq_true, decide_eq_true_eq] at h
      exact s_mut h.1.1.1.1 h.1.1.1.2 h.1.1.2 h.1.2 h.2 cs hs
    · cases h
  | .ret e, st, sc, X, h, cs, hs => by
    unfold chkS at h
    split at h
    · exact s_ret h cs hs
    · cases h
  | .ite c a b, st, sc, X, h, cs, hs => by
    unfold chkS at h
    split at h
    · simp only [Bool.and_eq_true] at h
      refine (ps_if (tst_of h.1.1 cs hs) (sSs a h.1.2 cs hs) (sSs b h.2 cs hs)).weak fun D σ H ⟨S, ra, ρ, fl, r, ev, gg⟩ => ?_
      obtain ⟨⟨t, ρ1⟩, e1, ev⟩ := bind_ok (show ((evT refs call c ρ).bind fun (t, ρ1) => if t = true then evSs refs call fuel a ρ1 else evSs refs call fuel b ρ1) = .ok fl from ev)
      refine ⟨S, ra, ρ, ρ1, t, r, e1, fun H1 af => ?_⟩
      cases t with
      | true => exact iteT ⟨S, ra, ρ1, fl, af.1, ev, gg.aft af.toS⟩
      | false => exact iteF ⟨S, ra, ρ1, fl, af.1, ev, gg.aft af.toS⟩
    · cases h
  | .for_ t k' src b, st, sc, X, h, cs, hs => by
    unfold chkS at h
    split at h
    · simp only [Bool.and_eq_true] at h
      obtain ⟨⟨⟨⟨h1, h2⟩, h3⟩, h4⟩, h5⟩ := h
      split at h4
      case h_2 => cases h4
      rename_i fs hf
      have pi := it_of h3 hf h4 (sL src h4 cs.toCf hs) (s1 src · cs.toCf hs) cs.toCf hs
      exact (ps_for cs.own cs.calm pi (tg_ok t h1 cs.N cs.nd cs.calm hs fun x _ => cs.fn x) (sSs b h5 cs hs) (noFold h2)).weak fun D σ H z => for_use z
    · cases h
  | .whl c b, st, sc, X, h, cs, hs => by
    unfold chkS at h
    split at h
    · simp only [Bool.and_eq_true] at h
      exact (ps_while cs.own (tst_of h.1 cs hs) (sSs b h.2 cs hs)).weak fun D σ H z => whl_use z
    · cases h
  | .brk, st, sc, X, h, cs, hs => by
    unfold chkS at h
    split at h
    · exact ps_break.weak fun D σ H ⟨S, ra, ρ, fl, r, ev, gg⟩ => by
        cases ev
        exact gg σ H (.refl r)
    · cases h
  | .cnt, st, sc, X, h, cs, hs => by
    unfold chkS at h
    split at h
    · exact ps_continue.weak fun D σ H ⟨S, ra, ρ, fl, r, ev, gg⟩ => by
        cases ev
        exact gg σ H (.refl r)
    · cases h
  | .pass, st, sc, X, h, cs, hs => by
    unfold chkS at h
    split at h
    · exact ps_pass.weak fun D σ H ⟨S, ra, ρ, fl, r, ev, gg⟩ => by
        cases ev
        exact gg σ H (.refl r)
    · cases h
  | .rz _ _, st, sc, X, h, cs, hs => ps_never.weak fun D σ H ⟨S, ra, ρ, fl, r, ev, gg⟩ => by cases ev
theorem sSs : ∀ (ms : Sms) {sts : List Stmt} {sc : Scope} {X : Cx}, chkSs C sc ms sts = true → Cs C refs call k X → X.env.scope = sc → PSs X sts (TSvs X.K refs call fuel ms)
  | .nil, [], sc, X, h, cs, hs => pss_nil.weak fun D σ H ⟨S, ra, ρ, fl, r, ev, gg⟩ => by
    cases ev
    exact gg σ H (.refl r)
  | .cons s ss, st :: sts, sc, X, h, cs, hs => by
    unfold chkSs at h
    simp only [Bool.and_eq_true] at h
    refine (pss_cons (sS s h.1 cs hs) (sSs ss h.2 cs hs)).weak fun D σ H ⟨S, ra, ρ, fl, r, ev, gg⟩ => ?_
    obtain ⟨fl1, e1, ev⟩ := bind_ok (show ((evS refs call fuel s ρ).bind fun
      | .nx ρ1 => evSs refs call fuel ss ρ1
      | r => R.ok r) = .ok fl from ev)
    refine ⟨S, ra, ρ, fl1, r, e1, ?_⟩
    cases fl1 with
    | nx ρ1 => exact fun σ' H' a => ⟨S, ra, ρ1, fl, a.1, ev, gg.aft a⟩
    | br ρ1 => cases ev; exact gg
    | ct ρ1 => cases ev; exact gg
    | rt d f ρ1 => cases ev; exact gg
  | .nil, _ :: _, sc, X, h, _, _ => by unfold chkSs at h; cases h
  | .cons _ _, [], sc, X, h, _, _ => by unfold chkSs at h; cases h
end
end
end Fh

set_option maxHeartbeats 2000000
/-! Fh: defs keep their promises. -/
namespace Fh
open PySem PySem.Spec PyProof.Rows L2
section
variable {K : PySem.W.Frag} {S : Addr → Prop} {H : Hp}
theorem startE_get {ref : Option Nat} : ∀ {ds : List PV} {j i : Nat}, (startE ref j ds)[i]? = (ds[i]?).map fun d => some (d, if ref = some (j + i) then Fg.rf else Fg.fz)
  | [], _, _ => rfl
  | d :: ds, j, 0 => by
    show some (some (d, if ref = some j then Fg.rf else Fg.fz)) = _
    simp
  | d :: ds, j, i + 1 => by
    show (startE ref (j + 1) ds)[i]? = _
    rw [startE_get, show j + 1 + i = j + (i + 1) by omega]
    rfl
theorem startE_len {ref : Option Nat} : ∀ {ds : List PV} {j : Nat}, (startE ref j ds).length = ds.length
  | [], _ => rfl
  | _ :: _, _ => congrArg (· + 1) startE_len
theorem repl_get {α : Type} {n i : Nat} : ∀ {c : Option α}, (List.replicate n (none : Option α))[i]? = some c → c = none := fun {c} h => by
  rw [List.getElem?_replicate] at h
  split at h
  · exact (Option.some.inj h).symm
  · cases h
theorem start_get {ref : Option Nat} {ds : List PV} {n i : Nat} {d : PV} {f : Fg} (h : (startE ref 0 ds ++ List.replicate n none)[i]? = some (some (d, f))) : ds[i]? = some d ∧ f = if ref = some i then Fg.rf else Fg.fz := by
  rw [List.getElem?_append] at h
  split at h
  · rw [startE_get] at h
    cases hd : ds[i]? with
    | none => rw [hd] at h; cases h
    | some d' =>
      rw [hd] at h
      have h := Option.some.inj (Option.some.inj h)
      simp only [Prod.mk.injEq, Nat.zero_add] at h
      exact ⟨by rw [h.1], h.2.symm⟩
  · cases repl_get h
theorem startσ_get {N : List Str} {vs : List V} {i : Nat} {v : V} (h : vs[i]? = some v) : (start N vs)[i]? = some (some v) := by
  unfold L2.start
  have hl := (List.getElem?_eq_some_iff.mp h).1
  rw [List.getElem?_append_left (by rw [List.length_map]; exact hl), List.getElem?_map, h]
  rfl
theorem sr_start {N : List Str} {ds : List PV} {vs : List V} (hl : vs.length = ds.length) (hN : ds.length ≤ N.length) (hS : ∀ b, S b → H b ≠ none) (hr : RepAll K (Hid S H) vs ds) :
    SR K S none (startE none 0 ds ++ List.replicate (N.length - ds.length) none) (start N vs) H ∧ Pub S (startE none 0 ds ++ List.replicate (N.length - ds.length) none) (start N vs) H = Hid S H := by
  have no : ∀ b, ¬ own (startE none 0 ds ++ List.replicate (N.length - ds.length) none) (start N vs) b := fun b ⟨i, d, f, e, n, _⟩ => by
    have := (start_get e).2
    simp at this
    exact n this
  have pe : Pub S (startE none 0 ds ++ List.replicate (N.length - ds.length) none) (start N vs) H = Hid S H := hid_congr fun b => ⟨fun h => h.elim id fun z => absurd z (no b), .inl⟩
  refine ⟨⟨?_, fun i d e => ?_, fun i d f e n => ?_, fun i j a d f d' f' e n => ?_, hS⟩, pe⟩
  · unfold L2.start
    rw [List.length_append, startE_len, List.length_replicate, List.length_append, List.length_map, List.length_replicate, hl]
  · rw [pe]
    obtain ⟨v, h1, h2⟩ := hr.get (start_get e).1
    exact ⟨v, startσ_get h1, h2⟩
  · have := (start_get e).2
    simp at this
    exact absurd this n
  · have := (start_get e).2
    simp at this
    exact absurd this n
theorem sr_startR {N : List Str} {ds : List PV} {vs : List V} {j : Nat} {aj : Addr} {dj : PV} (hl : vs.length = ds.length) (hN : ds.length ≤ N.length) (hS : ∀ b, S b → H b ≠ none) (h1 : ds[j]? = some dj) (h2 : vs[j]? = some (V.ref aj)) (h3 : ¬ S aj) (h4 : Top K H (Hid (plus S aj) H) aj dj)
    (h5 : ∀ (i : Nat) (d : PV), i ≠ j → ds[i]? = some d → ∃ v, vs[i]? = some v ∧ Rep K (Hid (plus S aj) H) v d) :
    SR K S (some aj) (startE (some j) 0 ds ++ List.replicate (N.length - ds.length) none) (start N vs) H ∧ Pub S (startE (some j) 0 ds ++ List.replicate (N.length - ds.length) none) (start N vs) H = Hid (plus S aj) H := by
  have isj : ∀ {i : Nat} {d : PV} {f : Fg}, (startE (some j) 0 ds ++ List.replicate (N.length - ds.length) none)[i]? = some (some (d, f)) → f ≠ .fz → i = j ∧ d = dj := fun {i d f} e n => by
    obtain ⟨e1, e2⟩ := start_get e
    by_cases c : (some j : Option Nat) = some i
    · cases c
      rw [h1] at e1
      exact ⟨rfl, (Option.some.inj e1).symm⟩
    · rw [if_neg c] at e2
      exact absurd e2 n
  have hj : (startE (some j) 0 ds ++ List.replicate (N.length - ds.length) none)[j]? = some (some (dj, Fg.rf)) := by
    rw [List.getElem?_append_left (by rw [startE_len]; exact (List.getElem?_eq_some_iff.mp h1).1), startE_get, h1]
    simp
  have oi : ∀ b, own (startE (some j) 0 ds ++ List.replicate (N.length - ds.length) none) (start N vs) b ↔ b = aj := fun b => by
    constructor
    · rintro ⟨i, d, f, e, n, es⟩
      obtain ⟨rfl, _⟩ := isj e n
      rw [startσ_get h2] at es
      cases es
      rfl
    · rintro rfl
      exact ⟨j, dj, .rf, hj, by simp, startσ_get h2⟩
  have pe : Pub S (startE (some j) 0 ds ++ List.replicate (N.length - ds.length) none) (start N vs) H = Hid (plus S aj) H := hid_congr fun b => or_congr Iff.rfl (oi b)
  refine ⟨⟨?_, fun i d e => ?_, fun i d f e n => ?_, fun i k a d f d' f' e n e' n' _ _ => ?_, hS⟩, pe⟩
  · unfold L2.start
    rw [List.length_append, startE_len, List.length_replicate, List.length_append, List.length_map, List.length_replicate, hl]
  · rw [pe]
    obtain ⟨e1, e2⟩ := start_get e
    have ne : i ≠ j := fun z => by
      subst z
      rw [if_pos rfl] at e2
      cases e2
    obtain ⟨v, g1, g2⟩ := h5 i d ne e1
    exact ⟨v, startσ_get g1, g2⟩
  · rw [pe]
    obtain ⟨rfl, rfl⟩ := isj e n
    exact ⟨aj, startσ_get h2, h3, h4, fun _ => rfl⟩
  · exact (isj e n).1.trans (isj e' n').1.symm
theorem pub_hid_same {ρ : Env} {σ : L2.St} {T : Addr → Prop} (h : ∀ b, T b → S b ∨ own ρ σ b) : Same (Pub S ρ σ H) (Hid T H) := fun b o e => by
  obtain ⟨h1, h2, h3⟩ := pub_some e
  rw [hid_of fun z => (h b z).elim h1 h2]
  exact h3
end
/-- what the module's names say -/
structure Fx (P : Prog) (fnm : Nat → Option Str) (gl : Str → PyData → Bool) (K : PySem.W.Frag) (mg : Str → Option Value) : Prop where
  bltn : ∀ x ∈ bnames, mg x = none
  glo : ∀ x d, gl x d = true → isM d = false ∧ ∃ v u, mg x = some u ∧ RelV v u ∧ Rep K (fun _ => none) v d
  dfs : ∀ f x, fnm f = some x → ∃ (d : Def) (a : Addr) (fd : FuncData) (N ps : List Str) (params : Arguments) (body : List Stmt) (scope : Scope), P f = some d ∧ mg x = some (.ref a) ∧ FunD K x x params body scope [] [] a fd ∧ Binds K fd ps [] ∧ FnScope N ps scope ∧
    chkSs ⟨N, fnm, gl⟩ scope d.body body = true ∧ d.np = ps.length ∧ d.nv = N.length ∧ ps.length ≤ N.length
section
variable {P : Prog} {fnm : Nat → Option Str} {gl : Str → PyData → Bool} {prog : Program} {w : World} {K : PySem.W.Frag} {mg : Str → Option Value}
theorem fn_step (F : Fx P fnm gl K mg) (base : Heap) (fuel n : Nat) {call call' : Calls} (hdefs : ∀ g y, fnm g = some y → ∃ a fd ps, mg y = some (.ref a) ∧ PySem.W.keepIn K (.ref a) = true ∧ Binds K fd ps [] ∧ FnOk prog w K mg base CX0 n a fd ps (spF K (refsOf P) call g))
    (f : Nat) (x : Str) {d : Def} {a : Addr} {fd : FuncData} {N ps : List Str} {params : Arguments} {body : List Stmt} {scope : Scope} (h1 : P f = some d) (h3 : FunD K x x params body scope [] [] a fd) (h5 : FnScope N ps scope)
    (h6 : chkSs ⟨N, fnm, gl⟩ scope d.body body = true) (h7 : d.np = ps.length) (h8 : d.nv = N.length) (h9 : ps.length ≤ N.length) (hc : ∀ ds r, call' f ds = .ok r → runDef P fuel call d ds = .ok r) : FnOk prog w K mg base CX0 (n + 1) a fd ps (spF K (refsOf P) call' f) := by
    have run : ∀ {ds : List PV} {r : Ret}, call' f ds = .ok r → ds.length = d.np ∧ ∃ fl, evSs (refsOf P) call fuel d.body (startE d.ref 0 ds ++ List.replicate (d.nv - d.np) none) = .ok fl ∧ outOf d.ref fl = .ok r := fun {ds r} e => by
      have e : (if ds.length = d.np then (evSs (refsOf P) call fuel d.body (startE d.ref 0 ds ++ List.replicate (d.nv - d.np) none)).bind (outOf d.ref) else .st) = .ok r := hc ds r e
      by_cases c : ds.length = d.np
      · rw [if_pos c] at e
        obtain ⟨fl, e1, e2⟩ := bind_ok e
        exact ⟨c, fl, e1, e2⟩
      · rw [if_neg c] at e; cases e
    refine h3.ok h5 (fun vs H Q E ⟨S, ds, r, _, e, hl, _⟩ => by rw [hl, (run e).1, h7]) fun cdv A outer s H vs Q E hr ⟨S, ds, r, hS, e, hl, hm⟩ => ?_
    obtain ⟨hd, fl, e1, e2⟩ := run e
    have cs : Cs ⟨N, fnm, gl⟩ (refsOf P) call n (cxOf CX0 prog w K mg base N x scope a cdv A outer s H E) :=
      { N := rfl, nd := h5.nd, calm := rfl, room := hr, bltn := F.bltn, glo := F.glo, defs := hdefs,
        own := passes_of (X := cxOf CX0 prog w K mg base N x scope a cdv A outer s H E) (K := fun e s'' => CX0 outer H s E e s'') (E₁ := fun e' s'' => CX0 outer H s E e' s'') rfl, fn := fun _ => rfl, kind := h5.kind }
    refine ⟨_, sSs (fuel := fuel) d.body h6 cs rfl, ?_⟩
    have hN : ds.length ≤ N.length := by rw [hd, h7]; exact h9
    have hc : d.nv - d.np = N.length - ds.length := by rw [hd, h8]
    rw [hc] at e1
    have hrf : refsOf P f = d.ref := by
      show (P f).bind Def.ref = _
      rw [h1]; rfl
    rw [hrf] at hm
    cases hR : d.ref with
    | none =>
      rw [hR] at hm e1 e2
      obtain ⟨hm1, hm2⟩ := hm
      obtain ⟨r0, pe⟩ := sr_start (N := N) hl hN hS hm1
      refine ⟨S, none, _, fl, r0, e1, ?_⟩
      cases fl with
      | nx ρ' =>
        have e2 : R.ok (PyData.none, false, (none : Option PV)) = .ok r := e2
        cases e2
        intro σ' H' af
        refine hm2 _ H' af.2.2 ⟨.non, ?_⟩
        rw [← pe]
        exact af.2.1.trans (pub_hid_same fun b hb => .inl hb)
      | rt dv f ρ' =>
        have e2 : R.ok (dv, f, (none : Option PV)) = .ok r := e2
        cases e2
        intro v H' σ' o
        obtain ⟨k, o⟩ := o
        refine hm2 v H' k ?_
        cases f with
        | false =>
          obtain ⟨r2, rp, s2⟩ := o
          have sm : Same (Pub S ρ' σ' H') (Hid S H') := pub_hid_same fun b hb => .inl hb
          exact ⟨rp.mono sm, by rw [← pe]; exact s2.trans sm⟩
        | true =>
          obtain ⟨a', rfl, n1, n2, r2, t, s2⟩ := o
          have sm : Same (Pub (plus S a') ρ' σ' H') (Hid (plus S a') H') := pub_hid_same fun b hb => .inl hb
          exact ⟨a', rfl, n1, t.mono rfl sm, by rw [← pe]; exact s2.trans sm⟩
      | br ρ' => cases e2
      | ct ρ' => cases e2
    | some j =>
      rw [hR] at hm e1 e2
      obtain ⟨aj, dj, dj', g1, g2, g3, g4, g5, g6, g7⟩ := hm
      obtain ⟨r0, pe⟩ := sr_startR (N := N) hl hN hS g1 g2 g3 g4 g5
      refine ⟨S, some aj, _, fl, r0, e1, ?_⟩
      have fin : ∀ {ρ' : Env} {σ' : L2.St} {H' : Hp} {T : Addr → Prop} {o : Option PV}, refOut (some j) ρ' = .ok o → SR K T (some aj) ρ' σ' H' → ∃ d', o = some d' ∧ ρ'[j]? = some (some (d', .rf)) ∧ own ρ' σ' aj ∧ ¬ T aj ∧ Top K H' (Pub T ρ' σ' H') aj d' := fun {ρ' σ' H' T o} e r => by
        unfold refOut at e
        dsimp only at e
        split at e
        · rename_i d' ej
          cases e
          obtain ⟨a', q1, q2, q3, q4⟩ := r.ow j d' .rf ej (by simp)
          have q5 := q4 rfl
          cases q5
          exact ⟨d', rfl, ej, ⟨j, d', .rf, ej, by simp, q1⟩, q2, q3⟩
        · cases e
      cases fl with
      | nx ρ' =>
        obtain ⟨o, e3, e4⟩ := bind_ok (show (refOut (some j) ρ').bind (fun o => R.ok (PyData.none, false, o)) = .ok r from e2)
        cases e4
        intro σ' H' af
        obtain ⟨d', rfl, _, q1, q2, q3⟩ := fin e3 af.1
        cases g6
        have sm : Same (Pub S ρ' σ' H') (Hid (plus S aj) H') := pub_hid_same fun b hb => hb.imp id fun z => by rw [z]; exact q1
        refine g7 _ H' af.2.2 ⟨q3.mono rfl sm, .non, ?_⟩
        rw [← pe]
        exact af.2.1.trans sm
      | rt dv f ρ' =>
        obtain ⟨o, e3, e4⟩ := bind_ok (show (refOut (some j) ρ').bind (fun o => R.ok (dv, f, o)) = .ok r from e2)
        cases e4
        intro v H' σ' ou
        obtain ⟨k, ou⟩ := ou
        refine g7 v H' k ?_
        cases f with
        | false =>
          obtain ⟨r2, rp, s2⟩ := ou
          obtain ⟨d', rfl, _, q1, q2, q3⟩ := fin e3 r2
          cases g6
          have sm : Same (Pub S ρ' σ' H') (Hid (plus S aj) H') := pub_hid_same fun b hb => hb.imp id fun z => by rw [z]; exact q1
          exact ⟨q3.mono rfl sm, rp.mono sm, by rw [← pe]; exact s2.trans sm⟩
        | true =>
          obtain ⟨a', rfl, n1, n2, r2, t, s2⟩ := ou
          obtain ⟨d', rfl, _, q1, q2, q3⟩ := fin e3 r2
          cases g6
          have sm : Same (Pub (plus S a') ρ' σ' H') (Hid (plus (plus S aj) a') H') := pub_hid_same fun b hb => by
            rcases hb with (hb | hb) | hb
            · exact .inl (.inl hb)
            · rw [hb]; exact .inr q1
            · exact .inl (.inr hb)
          exact ⟨a', rfl, fun z => z.elim n1 fun z => n2 (by rw [z]; exact q1), q3.mono rfl sm, t.mono rfl sm, by rw [← pe]; exact s2.trans sm⟩
      | br ρ' => cases e2
      | ct ρ' => cases e2
theorem fn_at (F : Fx P fnm gl K mg) (base : Heap) (fuel : Nat) : ∀ (n f : Nat) (x : Str) {d : Def} {a : Addr} {fd : FuncData} {N ps : List Str} {params : Arguments} {body : List Stmt} {scope : Scope}, P f = some d → FunD K x x params body scope [] [] a fd → FnScope N ps scope →
    chkSs ⟨N, fnm, gl⟩ scope d.body body = true → d.np = ps.length → d.nv = N.length → ps.length ≤ N.length → FnOk prog w K mg base CX0 n a fd ps (spF K (refsOf P) (callN P fuel n) f)
  | 0, f, x, d, a, fd, N, ps, params, body, scope, h1, h3, h5, h6, h7, h8, h9 => by
    have no : ∀ vs H Q E, ¬ spF K (refsOf P) (callN P fuel 0) f vs H Q E := fun vs H Q E ⟨S, ds, r, _, e, _⟩ => by cases e
    exact ⟨fun vs H Q E h => absurd h (no vs H Q E), fun A outer s H args us vs Q E _ _ _ _ h => absurd h (no vs H Q E)⟩
  | n + 1, f, x, d, a, fd, N, ps, params, body, scope, h1, h3, h5, h6, h7, h8, h9 => by
    refine fn_step F base fuel n (call := callN P fuel n) (fun g y hy => ?_) f x h1 h3 h5 h6 h7 h8 h9 fun ds r e => ?_
    · obtain ⟨d2, a2, fd2, N2, ps2, params2, body2, scope2, g1, g2, g3, g4, g5, g6, g7, g8, g9⟩ := F.dfs g y hy
      exact ⟨a2, fd2, ps2, g2, g3.kp, g4, fn_at F base fuel n g y g1 g3 g5 g6 g7 g8 g9⟩
    · have e : (match P f with
        | some d => runDef P fuel (callN P fuel n) d ds
        | none => .st) = .ok r := e
      rw [h1] at e
      exact e
/-! ### defs told by plain functions -/
abbrev Ovr := Nat → Option (List PV → R Ret)
def callM (P : Prog) (ov : Ovr) (L0 fuel : Nat) : Nat → Calls
  | 0 => fun _ _ => .st
  | n + 1 => fun f ds => match ov f with
    | some g => if L0 ≤ n + 1 then g ds else .st
    | none => (match P f with
      | some d => runDef P fuel (callM P ov L0 fuel n) d ds
      | none => .st)
theorem spF_imp {refs : Refs} {c1 c2 : Calls} {f : Nat} (h : ∀ ds r, c1 f ds = .ok r → c2 f ds = .ok r) : ∀ vs H Q E, spF K refs c1 f vs H Q E → spF K refs c2 f vs H Q E :=
  fun vs H Q E ⟨S, ds, r, h1, e, h2⟩ => ⟨S, ds, r, h1, h ds r e, h2⟩
theorem fnM_at (F : Fx P fnm gl K mg) (base : Heap) (fuel : Nat) {ov : Ovr} {L0 : Nat} (hov : ∀ f g, ov f = some g → ∀ ds r, g ds = .ok r → callN P fuel L0 f ds = .ok r) : ∀ (n f : Nat) (x : Str) {d : Def} {a : Addr} {fd : FuncData} {N ps : List Str} {params : Arguments} {body : List Stmt} {scope : Scope}, P f = some d → FunD K x x params body scope [] [] a fd → FnScope N ps scope →
    chkSs ⟨N, fnm, gl⟩ scope d.body body = true → d.np = ps.length → d.nv = N.length → ps.length ≤ N.length → FnOk prog w K mg base CX0 n a fd ps (spF K (refsOf P) (callM P ov L0 fuel n) f)
  | 0, f, x, d, a, fd, N, ps, params, body, scope, h1, h3, h5, h6, h7, h8, h9 => by
    have no : ∀ vs H Q E, ¬ spF K (refsOf P) (callM P ov L0 fuel 0) f vs H Q E := fun vs H Q E ⟨S, ds, r, _, e, _⟩ => by cases e
    exact ⟨fun vs H Q E h => absurd h (no vs H Q E), fun A outer s H args us vs Q E _ _ _ _ h => absurd h (no vs H Q E)⟩
  | n + 1, f, x, d, a, fd, N, ps, params, body, scope, h1, h3, h5, h6, h7, h8, h9 => by
    cases ho : ov f with
    | some g =>
      by_cases hl : L0 ≤ n + 1
      · have h := (fn_at (prog := prog) (w := w) F base fuel L0 f x h1 h3 h5 h6 h7 h8 h9).mono (k := n + 1) hl
        refine h.imp (spF_imp fun ds r e => hov f g ho ds r ?_)
        have e : (match ov f with
          | some g => if L0 ≤ n + 1 then g ds else .st
          | none => (match P f with
            | some d => runDef P fuel (callM P ov L0 fuel n) d ds
            | none => .st)) = .ok r := e
        rw [ho] at e
        exact (if_pos hl).symm.trans e
      · have no : ∀ ds r, callM P ov L0 fuel (n + 1) f ds ≠ .ok r := fun ds r e => by
          have e : (match ov f with
            | some g => if L0 ≤ n + 1 then g ds else .st
            | none => (match P f with
              | some d => runDef P fuel (callM P ov L0 fuel n) d ds
              | none => .st)) = .ok r := e
          rw [ho] at e
          have e := (if_neg hl).symm.trans e
          cases e
        have no2 : ∀ vs H Q E, ¬ spF K (refsOf P) (callM P ov L0 fuel (n + 1)) f vs H Q E := fun vs H Q E ⟨S, ds, r, _, e, _⟩ => no ds r e
        exact ⟨fun vs H Q E h => absurd h (no2 vs H Q E), fun A outer s H args us vs Q E _ _ _ _ h => absurd h (no2 vs H Q E)⟩
    | none =>
      refine fn_step F base fuel n (call := callM P ov L0 fuel n) (fun g y hy => ?_) f x h1 h3 h5 h6 h7 h8 h9 fun ds r e => ?_
      · obtain ⟨d2, a2, fd2, N2, ps2, params2, body2, scope2, g1, g2, g3, g4, g5, g6, g7, g8, g9⟩ := F.dfs g y hy
        exact ⟨a2, fd2, ps2, g2, g3.kp, g4, fnM_at F base fuel hov n g y g1 g3 g5 g6 g7 g8 g9⟩
      · have e : (match ov f with
          | some g => if L0 ≤ n + 1 then g ds else .st
          | none => (match P f with
            | some d => runDef P fuel (callM P ov L0 fuel n) d ds
            | none => .st)) = .ok r := e
        rw [ho, h1] at e
        exact e
end
end Fh

set_option maxHeartbeats 2000000
/-! Fh: the module's constants; the head. -/
namespace Fh
open PySem PySem.Spec PyProof.Rows L2
mutual
def repB (K : PySem.W.Frag) (u : Value) : PyData → Bool
  | .none => decide (u = .none)
  | .bool b => decide (u = .bool b)
  | .int i => (match u with
    | .int j _ => decide (j = i)
    | _ => false)
  | .str i => (match u with
    | .str j _ => decide (j = i)
    | _ => false)
  | .tuple ds => (match u with
    | .ref a => (match K.lookup a with
      | some ⟨.type c, _, .seq its _, _⟩ => decide (c = "tuple") && (decide (its.size ≤ sizeLine) && repBs K its.toList ds)
      | _ => false)
    | _ => false)
  | _ => false
def repBs (K : PySem.W.Frag) (us : List Value) : List PyData → Bool
  | [] => us.isEmpty
  | d :: ds => (match us with
    | u :: us => repB K u d && repBs K us ds
    | [] => false)
end
mutual
theorem repB_ok {K : PySem.W.Frag} {A : Hp} : ∀ {d : PyData} {u : Value}, repB K u d = true → ∃ v, RelV v u ∧ Rep K A v d
  | .none, u, h => by
    unfold repB at h
    obtain rfl := of_decide_eq_true h
    exact ⟨.non, rfl, .non⟩
  | .bool b, u, h => by
    unfold repB at h
    obtain rfl := of_decide_eq_true h
    exact ⟨.bl b, rfl, .bl b⟩
  | .int i, u, h => by
    unfold repB at h
    cases u with
    | int j t =>
      obtain rfl := of_decide_eq_true h
      exact ⟨.int _, ⟨t, rfl⟩, .int _⟩
    | _ => cases h
  | .str i, u, h => by
    unfold repB at h
    cases u with
    | str j t =>
      obtain rfl := of_decide_eq_true h
      exact ⟨.str _, ⟨t, rfl⟩, .str _⟩
    | _ => cases h
  | .tuple ds, u, h => by
    unfold repB at h
    cases u with
    | ref a =>
      dsimp only at h
      split at h
      · rename_i c od its n sl e
        simp only [Bool.and_eq_true, decide_eq_true_eq] at h
        obtain ⟨rfl, h2, h3⟩ := h
        obtain ⟨vs, h4, h5⟩ := repBs_ok (A := A) h3
        exact ⟨.ref a, rfl, .tup (.inr ⟨_, its, n, e, rfl, rfl, h2, h4⟩) h5⟩
      · cases h
    | _ => cases h
  | .list _, u, h => by unfold repB at h; cases h
  | .dict _, u, h => by unfold repB at h; cases h
theorem repBs_ok {K : PySem.W.Frag} {A : Hp} : ∀ {ds : List PyData} {us : List Value}, repBs K us ds = true → ∃ vs, Vals vs us ∧ RepAll K A vs ds
  | [], us, h => by
    unfold repBs at h
    cases us with
    | nil => exact ⟨[], .nil, .nil⟩
    | cons _ _ => cases h
  | d :: ds, us, h => by
    unfold repBs at h
    cases us with
    | nil => cases h
    | cons u us =>
      simp only [Bool.and_eq_true] at h
      obtain ⟨v, h1, h2⟩ := repB_ok (A := A) h.1
      obtain ⟨vs, h3, h4⟩ := repBs_ok (A := A) h.2
      exact ⟨v :: vs, .cons h1 h3, .cons h2 h4⟩
end
mutual
def pdEq : PyData → PyData → Bool
  | .none, e => (match e with | .none => true | _ => false)
  | .bool b, e => (match e with | .bool c => b == c | _ => false)
  | .int b, e => (match e with | .int c => decide (b = c) | _ => false)
  | .str b, e => (match e with | .str c => decide (b = c) | _ => false)
  | .tuple b, e => (match e with | .tuple c => pdEqs b c | _ => false)
  | _, _ => false
def pdEqs : List PyData → List PyData → Bool
  | [], e => e.isEmpty
  | d :: ds, e => (match e with | c :: cs => pdEq d c && pdEqs ds cs | [] => false)
end
mutual
theorem pdEq_ok : ∀ {d e : PyData}, pdEq d e = true → d = e ∧ isM d = false
  | .none, e, h => by
    unfold pdEq at h
    cases e <;> first | exact ⟨rfl, rfl⟩ | cases h
  | .bool b, e, h => by
    unfold pdEq at h
    cases e with
    | bool c => exact ⟨congrArg _ (eq_of_beq h), rfl⟩
    | _ => cases h
  | .int b, e, h => by
    unfold pdEq at h
    cases e with
    | int c => exact ⟨congrArg _ (of_decide_eq_true h), rfl⟩
    | _ => cases h
  | .str b, e, h => by
    unfold pdEq at h
    cases e with
    | str c => exact ⟨congrArg _ (of_decide_eq_true h), rfl⟩
    | _ => cases h
  | .tuple b, e, h => by
    unfold pdEq at h
    cases e with
    | tuple c => exact ⟨congrArg _ (pdEqs_ok h), rfl⟩
    | _ => cases h
  | .list _, e, h => by unfold pdEq at h; cases h
  | .dict _, e, h => by unfold pdEq at h; cases h
theorem pdEqs_ok : ∀ {d e : List PyData}, pdEqs d e = true → d = e
  | [], e, h => by
    unfold pdEqs at h
    cases e <;> first | rfl | cases h
  | d :: ds, e, h => by
    unfold pdEqs at h
    cases e with
    | nil => cases h
    | cons c cs =>
      simp only [Bool.and_eq_true] at h
      rw [(pdEq_ok h.1).1, pdEqs_ok h.2]
end
def glOf (gls : List (Str × PyData)) (x : Str) (d : PyData) : Bool := gls.any fun q => decide (q.1 = x) && pdEq q.2 d
def glsB (gls : List (Str × PyData)) (K : PySem.W.Frag) : Bool := gls.all fun q => match PySem.W.nsIn K mainGlobals q.1 with
  | some (some u) => repB K u q.2
  | _ => false
theorem glo_of {gls : List (Str × PyData)} {K : PySem.W.Frag} {h : Heap} {mg : Str → Option Value} (X : K.In h) (G : h.Ns mainGlobals mg) (c : glsB gls K = true) : ∀ x d, glOf gls x d = true → isM d = false ∧ ∃ v u, mg x = some u ∧ RelV v u ∧ Rep K (fun _ => none) v d := fun x d e => by
  obtain ⟨q, hq, e⟩ := List.any_eq_true.mp e
  simp only [Bool.and_eq_true, decide_eq_true_eq] at e
  obtain ⟨e1, e2⟩ := e
  obtain ⟨e3, e4⟩ := pdEq_ok e2
  have c1 := List.all_eq_true.mp c q hq
  subst e1
  rw [← e3]
  refine ⟨e4, ?_⟩
  split at c1
  · rename_i u hu
    obtain ⟨v, h1, h2⟩ := repB_ok (A := fun _ => none) c1
    exact ⟨v, u, PySem.W.mg_of X G hu, h1, h2⟩
  · cases c1
/-! ### the hook -/
def obsB (n : Nat) (fa : List He.Fa) (fn : List He.DefD) (gls : List (Str × PyData)) (g : Addr → Option Obj) : He.AlD × Bool := (He.obsD fa fn (He.frG g (He.asD g n)), glsB gls (He.frG g (He.asD g n)))
def hookB (n : Nat) (fa : List He.Fa) (fn : List He.DefD) (gls : List (Str × PyData)) : PySem.W.Hook where
  α := He.AlD × Bool
  obs := fun s => obsB n fa fn gls s.heap.get?
  val := fun _ => (He.valD fn, true)
  says := fun _ h => ∃ K : PySem.W.Frag, K.In h ∧ He.SaysD fa fn K ∧ glsB gls K = true
  of := fun _ _ e => ⟨_, He.frG_in, congrArg (fun z : He.AlD × Bool => z.1) e, congrArg (fun z : He.AlD × Bool => z.2) e⟩
  keeps := fun _ _ _ ⟨K, hK, c⟩ k => ⟨K, PySem.W.Frag.In.keeps hK k, c⟩
theorem obsB_eq {n : Nat} {fa : List He.Fa} {fn : List He.DefD} {gls : List (Str × PyData)} {g : Addr → Option Obj} {s : Shared} (h : ∀ a, g a = s.heap.get? a) : obsB n fa fn gls g = (hookB n fa fn gls).obs s := by
  have e : g = s.heap.get? := funext h
  rw [e] <;> rfl
/-- a law's promise: at any fuel -/
def spAny (K : PySem.W.Frag) (P : Prog) (ov : Nat → Ovr) (L0 n f : Nat) : Sp := fun vs H Q E => ∃ fuel, spF K (refsOf P) (callM P (ov fuel) L0 fuel n) f vs H Q E
theorem ok_any {P : Prog} {fnm : Nat → Option Str} {gl : Str → PyData → Bool} {prog : Program} {w : World} {K : PySem.W.Frag} {mg : Str → Option Value} (F : Fx P fnm gl K mg) {ov : Nat → Ovr} {L0 : Nat} (hov : ∀ fuel f g, ov fuel f = some g → ∀ ds r, g ds = .ok r → callN P fuel L0 f ds = .ok r)
    (base : Heap) (n f : Nat) (x : Str) {d : Def} {a : Addr} {fd : FuncData} {N ps : List Str} {params : Arguments} {body : List Stmt} {scope : Scope}
    (h1 : P f = some d) (h3 : FunD K x x params body scope [] [] a fd) (h5 : FnScope N ps scope) (h6 : chkSs ⟨N, fnm, gl⟩ scope d.body body = true) (h7 : d.np = ps.length) (h8 : d.nv = N.length) (h9 : ps.length ≤ N.length) : FnOk prog w K mg base CX0 n a fd ps (spAny K P ov L0 n f) := by
  have h : ∀ fuel, FnOk prog w K mg base CX0 n a fd ps (spF K (refsOf P) (callM P (ov fuel) L0 fuel n) f) := fun fuel => fnM_at F base fuel (hov fuel) n f x h1 h3 h5 h6 h7 h8 h9
  exact ⟨fun vs H Q E ⟨fuel, q⟩ => (h fuel).len vs H Q E q, fun A outer s H args us vs Q E e1 e2 e3 e4 ⟨fuel, q⟩ => (h fuel).run A outer s H args us vs Q E e1 e2 e3 e4 q⟩
/-- what is left: the evaluator says True -/
theorem law_any {P : Prog} {K : PySem.W.Frag} {ov : Nat → Ovr} {L0 n f : Nat} (hr : refsOf P f = none) {H : Hp} {a : Addr} {ns : List Int} (hq : SqL K H a (ns.map V.int)) (h : ∃ fuel, callM P (ov fuel) L0 fuel n f [.list (ns.map PyData.int)] = .ok (.bool true, false, none)) :
    spAny K P ov L0 n f [.ref a] H (fun v _ => v = .bl true) fun _ _ _ => False := by
  obtain ⟨fuel, h⟩ := h
  have hd : Hid (fun _ => False) H = H := by
    funext b
    exact if_neg id
  have rp : ∀ ns : List Int, RepAll K H (ns.map V.int) (ns.map PyData.int) := fun ns => by
    induction ns with
    | nil => exact .nil
    | cons n ns ih => exact .cons (.int n) ih
  refine ⟨fuel, fun _ => False, _, _, fun b z => z.elim, h, rfl, ?_⟩
  rw [hr]
  refine ⟨?_, fun v H' _ ret => ?_⟩
  · rw [hd]
    exact .cons (.lst hq (rp ns)) .nil
  · obtain ⟨rv, _⟩ := ret
    cases rv
    rfl
end Fh

set_option maxHeartbeats 4000000
namespace FhL
open PySem PySem.Spec PyProof.Rows L2 Fh
def top (i : Nat) : Stmt := PySem.Challenge.pw_ferryhouse_k44_whole_supplied_cars.main.body.getD i (.Pass ⟨0, 0, 0, 0⟩)
def dD (i : Nat) (x : Str) : He.DefD := ⟨(x, none), x, x, defArgs (top i), defBody (top i), defScope (top i), [], []⟩
def gls : List (Str × PyData) := [(("MOST_DEPOTS" : Str), (.int (10) : PyData)), (("MOST_UNITS" : Str), (.int (100) : PyData)), (("MOST_WAY" : Str), (.int (200) : PyData)), (("STOPS" : Str), (.str "stops" : PyData)), (("DRY" : Str), (.str "dry" : PyData))]
/-- is_integer(thing) slots: 0=thing -/
def N0 : List Str := ["thing"]
def B0 : Sms := (.cons (.ret (.bop true (.isi (.v 0) .int) (.nt (.isi (.v 0) .bool)))) .nil)
def D0 : Def := ⟨1, 1, none, B0⟩
/-- is_within(thing, low, high) slots: 0=thing 1=low 2=high -/
def N1 : List Str := ["thing", "low", "high"]
def B1 : Sms := (.cons (.ret (.bop true (.call 0 (.cons (.v 0) .nil)) (.chn (.v 1) .le (.v 0) .le (.v 2)))) .nil)
def D1 : Def := ⟨3, 3, none, B1⟩
/-- is_sized(thing, low, high) slots: 0=thing 1=low 2=high -/
def N2 : List Str := ["thing", "low", "high"]
def B2 : Sms := (.cons (.ret (.bop true (.isi (.v 0) .tuple) (.chn (.v 1) .le (.fn .len (.cons (.v 0) .nil)) .le (.v 2)))) .nil)
def D2 : Def := ⟨3, 3, none, B2⟩
/-- are_depots(thing) slots: 0=thing 1=depot 2=one 3=other -/
def N3 : List Str := ["thing", "depot", "one", "other"]
def B3 : Sms := (.cons (.ite (.bop false (.nt (.call 2 (.cons (.v 0) (.cons (.c (.int (0))) (.cons (.g "MOST_DEPOTS" (.int (10))) .nil))))) (.nt (.fn .all (.cons (.comp [("depot", 1)] (.v 1) .seq (.cons (.v 0) .nil) .nil (.call 2 (.cons (.v 1) (.cons (.c (.int (2))) (.cons (.c (.int (2))) .nil))))) .nil)))) (.cons (.ret (.c (.bool false))) .nil) .nil) (.cons (.ite (.nt (.fn .all (.cons (.comp [("depot", 1)] (.v 1) .seq (.cons (.v 0) .nil) .nil (.fn .all (.cons (.comp [("one", 2)] (.v 2) .seq (.cons (.v 1) .nil) .nil (.call 1 (.cons (.v 2) (.cons (.c (.int (1))) (.cons (.g "MOST_UNITS" (.int (100))) .nil))))) .nil))) .nil))) (.cons (.ret (.c (.bool false))) .nil) .nil) (.cons (.ret (.fn .all (.cons (.comp [("one", 2), ("other", 3)] (.t (.cons (.v 2) (.cons (.v 3) .nil))) .zip (.cons (.v 0) (.cons (.slc (.v 0) (.cons (.c (.int (1))) .nil) .nil) .nil)) .nil (.cmp .lt (.idx (.v 2) (.c (.int (0)))) (.idx (.v 3) (.c (.int (0)))))) .nil))) .nil)))
def D3 : Def := ⟨1, 4, none, B3⟩
/-- check_depots(some, t, way) slots: 0=some 1=t 2=way -/
def N4 : List Str := ["some", "t", "way"]
def B4 : Sms := (.cons (.ite (.nt (.call 3 (.cons (.v 0) .nil))) (.cons (.rz "" .nil) .nil) .nil) (.cons (.ite (.bop false (.nt (.call 1 (.cons (.v 1) (.cons (.c (.int (1))) (.cons (.g "MOST_UNITS" (.int (100))) .nil))))) (.nt (.call 1 (.cons (.v 2) (.cons (.c (.int (1))) (.cons (.g "MOST_WAY" (.int (200))) .nil)))))) (.cons (.rz "" .nil) .nil) .nil) .nil))
def D4 : Def := ⟨3, 3, none, B4⟩
/-- dry_at(some, t, numbers) slots: 0=some 1=t 2=numbers 3=place 4=held 5=number 6=there 7=fuel -/
def N5 : List Str := ["some", "t", "numbers", "place", "held", "number", "there", "fuel"]
def B5 : Sms := (.cons (.par [3, 4] (.cons (.c (.int (0))) (.cons (.v 1) .nil))) (.cons (.for_ (.t (.cons (.v 5) (.cons (.t (.cons (.v 6) (.cons (.v 7) .nil))) .nil))) .enm (.cons (.v 0) .nil) (.cons (.ite (.cmp .gt (.v 6) (.bin .add (.v 3) (.v 4))) (.cons (.ret (.bin .add (.v 3) (.v 4))) .nil) .nil) (.cons (.aug 4 .sub (.bin .sub (.v 6) (.v 3))) (.cons (.asg (.v 3) (.v 6)) (.cons (.ite (.cmp .isin (.v 5) (.v 2)) (.cons (.asg (.v 4) (.fn .min2 (.cons (.v 1) (.cons (.bin .add (.v 4) (.v 7)) .nil)))) .nil) .nil) .nil))))) (.cons (.ret (.bin .add (.v 3) (.v 4))) .nil)))
def D5 : Def := ⟨3, 8, none, B5⟩
/-- lots_by_size(many) slots: 0=many 1=found 2=one 3=size 4=lot -/
def N6 : List Str := ["many", "found", "one", "size", "lot"]
def B6 : Sms := (.cons (.asg (.v 1) (.lst (.cons (.tup .nil) .nil))) (.cons (.for_ (.v 2) .rng (.cons (.v 0) .nil) (.cons (.asg (.v 1) (.bin .add (.v 1) (.comp [("lot", 4)] (.v 4) .seq (.cons (.v 1) .nil) .nil (.bin .add (.v 4) (.tup (.cons (.v 2) .nil)))))) .nil)) (.cons (.ret (.comp [("size", 3), ("lot", 4)] (.t (.cons (.v 3) (.cons (.v 4) .nil))) .seq (.cons (.srt (.comp [("lot", 4)] (.v 4) .seq (.cons (.v 1) .nil) .nil (.tup (.cons (.fn .len (.cons (.v 4) .nil)) (.cons (.v 4) .nil))))) .nil) .nil (.v 4))) .nil)))
def D6 : Def := ⟨1, 5, none, B6⟩
/-- stops(some, t, way) slots: 0=some 1=t 2=way 3=lot -/
def N7 : List Str := ["some", "t", "way", "lot"]
def B7 : Sms := (.cons (.ex (.call 4 (.cons (.v 0) (.cons (.v 1) (.cons (.v 2) .nil))))) (.cons (.ite (.cmp .lt (.call 5 (.cons (.v 0) (.cons (.v 1) (.cons (.toS false .rng (.cons (.fn .len (.cons (.v 0) .nil)) .nil)) .nil)))) (.v 2)) (.cons (.ret (.tup (.cons (.g "DRY" (.str "dry")) (.cons (.call 5 (.cons (.v 0) (.cons (.v 1) (.cons (.toS false .rng (.cons (.fn .len (.cons (.v 0) .nil)) .nil)) .nil)))) .nil)))) .nil) .nil) (.cons (.for_ (.v 3) .seq (.cons (.call 6 (.cons (.fn .len (.cons (.v 0) .nil)) .nil)) .nil) (.cons (.ite (.cmp .ge (.call 5 (.cons (.v 0) (.cons (.v 1) (.cons (.v 3) .nil)))) (.v 2)) (.cons (.ret (.tup (.cons (.g "STOPS" (.str "stops")) (.cons (.v 3) .nil)))) .nil) .nil) .nil)) (.cons (.ret (.c (.none))) .nil))))
def D7 : Def := ⟨3, 4, none, B7⟩
/-- _law_hand(script) slots: 0=script 1=cells 2=cell -/
def N8 : List Str := ["script", "cells", "cell"]
def B8 : Sms := (.cons (.asg (.v 1) (.comp [("cell", 2)] (.v 2) .seq (.cons (.slc (.v 0) .nil (.cons (.c (.int (63))) .nil)) .nil) .nil (.fn .abs (.cons (.fn .int (.cons (.v 2) .nil)) .nil)))) (.cons (.ret (.lst (.cons (.v 1) (.cons (.c (.int (0))) (.cons (.c (.int (0))) (.cons (.bin .add (.c (.int (97))) (.bin .mul (.c (.int (5))) (.fn .len (.cons (.v 1) .nil)))) (.cons (.c (.int (0))) .nil))))))) .nil))
def D8 : Def := ⟨1, 3, none, B8⟩
/-- _law_draw(hand, many) slots: 0=hand 1=many 2=number 3=cell 4=figure -/
def N9 : List Str := ["hand", "many", "number", "cell", "figure"]
def B9 : Sms := (.cons (.ite (.bop true (.cmp .eq (.idx (.v 0) (.c (.int (2)))) (.c (.int (0)))) (.cmp .lt (.idx (.v 0) (.c (.int (1)))) (.fn .len (.cons (.idx (.v 0) (.c (.int (0)))) .nil)))) (.cons (.asg (.v 3) (.idx (.idx (.v 0) (.c (.int (0)))) (.idx (.v 0) (.c (.int (1)))))) (.cons (.seti 0 (.c (.int (1))) (.bin .add (.idx (.v 0) (.c (.int (1)))) (.c (.int (1))))) (.cons (.seti 0 (.c (.int (3))) (.bin .mod (.fn .int (.cons (.bin .add (.bin .add (.bin .mul (.idx (.v 0) (.c (.int (3)))) (.c (.int (48271)))) (.v 3)) (.c (.int (31)))) .nil)) (.c (.int (2147483647))))) (.cons (.ite (.cmp .ge (.v 3) (.bin .pow (.c (.int (10))) (.c (.int (18))))) (.cons (.seti 0 (.c (.int (2))) (.v 3)) .nil) .nil) .nil)))) .nil) (.cons (.ite (.cmp .gt (.idx (.v 0) (.c (.int (2)))) (.c (.int (0)))) (.cons (.asg (.v 4) (.bin .mod (.fn .int (.cons (.idx (.v 0) (.c (.int (2)))) .nil)) (.v 1))) (.cons (.seti 0 (.c (.int (2))) (.bin .fdiv (.idx (.v 0) (.c (.int (2)))) (.v 1))) (.cons (.ret (.v 4)) .nil))) .nil) (.cons (.seti 0 (.c (.int (4))) (.bin .add (.idx (.v 0) (.c (.int (4)))) (.c (.int (1))))) (.cons (.asg (.v 2) (.bin .mod (.fn .int (.cons (.bin .mul (.fn .int (.cons (.bin .add (.idx (.v 0) (.c (.int (3)))) (.bin .mul (.c (.int (6151))) (.idx (.v 0) (.c (.int (4)))))) .nil)) (.c (.int (40692)))) .nil)) (.c (.int (2147483399))))) (.cons (.asg (.v 2) (.bin .mod (.fn .int (.cons (.bin .mul (.v 2) (.bin .add (.bin .fdiv (.v 2) (.c (.int (1223)))) (.c (.int (52027))))) .nil)) (.c (.int (2147483629))))) (.cons (.asg (.v 2) (.bin .mod (.fn .int (.cons (.bin .mul (.v 2) (.bin .add (.bin .fdiv (.v 2) (.c (.int (2671)))) (.c (.int (69621))))) .nil)) (.c (.int (2147483647))))) (.cons (.ret (.bin .mod (.fn .int (.cons (.bin .fdiv (.v 2) (.c (.int (32)))) .nil)) (.v 1))) .nil)))))))
def D9 : Def := ⟨2, 5, some 0, B9⟩
/-- _law_some(hand, things) slots: 0=hand 1=things -/
def N10 : List Str := ["hand", "things"]
def B10 : Sms := (.cons (.ret (.idx (.v 1) (.call 9 (.cons (.v 0) (.cons (.fn .len (.cons (.v 1) .nil)) .nil))))) .nil)
def D10 : Def := ⟨2, 2, some 0, B10⟩
/-- _law_is(told, due) slots: 0=told 1=due 2=key 3=one 4=two -/
def N11 : List Str := ["told", "due", "key", "one", "two"]
def B11 : Sms := (.cons (.ite (.isis (.v 1) [.tuple, .list]) (.cons (.ite (.bop false (.cmp .ne (.isi (.v 0) .tuple) (.isi (.v 1) .tuple)) (.nt (.isis (.v 0) [.tuple, .list]))) (.cons (.ret (.c (.bool false))) .nil) .nil) (.cons (.ret (.bop true (.cmp .eq (.fn .len (.cons (.v 0) .nil)) (.fn .len (.cons (.v 1) .nil))) (.fn .all (.cons (.comp [("one", 3), ("two", 4)] (.t (.cons (.v 3) (.cons (.v 4) .nil))) .zip (.cons (.v 0) (.cons (.v 1) .nil)) .nil (.call 11 (.cons (.v 3) (.cons (.v 4) .nil)))) .nil)))) .nil)) .nil) (.cons (.ite (.isi (.v 1) .dict) (.cons (.ite (.bop false (.nt (.isi (.v 0) .dict)) (.cmp .ne (.fn .len (.cons (.v 0) .nil)) (.fn .len (.cons (.v 1) .nil)))) (.cons (.ret (.c (.bool false))) .nil) .nil) (.cons (.ret (.fn .all (.cons (.comp [("key", 2)] (.v 2) .seq (.cons (.v 1) .nil) .nil (.bop true (.cmp .isin (.v 2) (.v 0)) (.call 11 (.cons (.idx (.v 0) (.v 2)) (.cons (.idx (.v 1) (.v 2)) .nil))))) .nil))) .nil)) .nil) (.cons (.ite (.bop false (.isi (.v 1) .str) (.isn false (.v 1))) (.cons (.ret (.bop true (.cmp .eq (.isi (.v 0) .str) (.isi (.v 1) .str)) (.cmp .eq (.v 0) (.v 1)))) .nil) .nil) (.cons (.ret (.bop true (.isi (.v 0) .int) (.bop true (.cmp .eq (.isi (.v 0) .bool) (.isi (.v 1) .bool)) (.cmp .eq (.v 0) (.v 1))))) .nil))))
def D11 : Def := ⟨2, 5, none, B11⟩
/-- _law_drive(depots, tank, way, lot) slots: 0=depots 1=tank 2=way 3=lot 4=fuel 5=here 6=number 7=place 8=much -/
def N12 : List Str := ["depots", "tank", "way", "lot", "fuel", "here", "number", "place", "much"]
def B12 : Sms := (.cons (.par [4, 5] (.cons (.v 1) (.cons (.c (.int (0))) .nil))) (.cons (.for_ (.t (.cons (.v 6) (.cons (.t (.cons (.v 7) (.cons (.v 8) .nil))) .nil))) .enm (.cons (.v 0) .nil) (.cons (.ite (.bop true (.cmp .isin (.v 6) (.v 3)) (.cmp .le (.v 7) (.v 2))) (.cons (.ite (.cmp .gt (.bin .sub (.v 7) (.v 5)) (.v 4)) (.cons (.ret (.bin .add (.v 5) (.v 4))) .nil) .nil) (.cons (.par [4, 5] (.cons (.fn .min2 (.cons (.v 1) (.cons (.bin .add (.bin .sub (.v 4) (.bin .sub (.v 7) (.v 5))) (.v 8)) .nil))) (.cons (.v 7) .nil))) .nil)) .nil) .nil)) (.cons (.ret (.fn .min2 (.cons (.v 2) (.cons (.bin .add (.v 5) (.v 4)) .nil)))) .nil)))
def D12 : Def := ⟨4, 9, none, B12⟩
/-- law(script) slots: 0=script 1=hand 2=turn 3=top 4=again 5=tank 6=way 7=lots 8=number 9=good 10=whole 11=due 12=depots 13=place 14=lot -/
def N13 : List Str := ["script", "hand", "turn", "top", "again", "tank", "way", "lots", "number", "good", "whole", "due", "depots", "place", "lot"]
def B13 : Sms := (.cons (.asg (.v 1) (.call 8 (.cons (.v 0) .nil))) (.cons (.for_ (.v 2) .rng (.cons (.c (.int (6))) .nil) (.cons (.par [12, 13] (.cons (.lst .nil) (.cons (.c (.int (0))) .nil))) (.cons (.asg (.v 3) (.call 10 (.cons (.v 1) (.cons (.lst (.cons (.c (.int (4))) (.cons (.c (.int (9))) (.cons (.c (.int (20))) .nil)))) .nil)))) (.cons (.for_ (.v 4) .rng (.cons (.call 9 (.cons (.v 1) (.cons (.c (.int (7))) .nil))) .nil) (.cons (.asg (.v 13) (.bin .add (.bin .add (.v 13) (.c (.int (1)))) (.call 9 (.cons (.v 1) (.cons (.v 3) .nil))))) (.cons (.ite (.cmp .le (.v 13) (.c (.int (100)))) (.cons (.mut .append 12 (.tup (.cons (.v 13) (.cons (.bin .add (.c (.int (1))) (.call 9 (.cons (.v 1) (.cons (.call 10 (.cons (.v 1) (.cons (.lst (.cons (.c (.int (3))) (.cons (.c (.int (10))) (.cons (.c (.int (30))) .nil)))) .nil))) .nil)))) .nil)))) .nil) .nil) .nil))) (.cons (.asg (.v 5) (.bin .add (.c (.int (1))) (.call 9 (.cons (.v 1) (.cons (.call 10 (.cons (.v 1) (.cons (.lst (.cons (.c (.int (8))) (.cons (.c (.int (20))) (.cons (.c (.int (60))) .nil)))) .nil))) .nil))))) (.cons (.asg (.v 6) (.bin .add (.c (.int (1))) (.call 9 (.cons (.v 1) (.cons (.call 10 (.cons (.v 1) (.cons (.lst (.cons (.c (.int (30))) (.cons (.c (.int (90))) (.cons (.c (.int (150))) .nil)))) .nil))) .nil))))) (.cons (.asg (.v 7) (.lst (.cons (.tup .nil) .nil))) (.cons (.for_ (.v 8) .rng (.cons (.fn .len (.cons (.v 12) .nil)) .nil) (.cons (.asg (.v 7) (.bin .add (.v 7) (.comp [("lot", 14)] (.v 14) .seq (.cons (.v 7) .nil) .nil (.bin .add (.v 14) (.tup (.cons (.v 8) .nil)))))) .nil)) (.cons (.asg (.v 9) (.comp [("lot", 14)] (.v 14) .seq (.cons (.v 7) .nil) (.cons (.cmp .eq (.call 12 (.cons (.v 12) (.cons (.v 5) (.cons (.v 6) (.cons (.v 14) .nil))))) (.v 6)) .nil) (.tup (.cons (.fn .len (.cons (.v 14) .nil)) (.cons (.v 14) .nil))))) (.cons (.asg (.v 10) (.toS false .rng (.cons (.fn .len (.cons (.v 12) .nil)) .nil))) (.cons (.asg (.v 11) (.ite (.cmp .gt (.fn .len (.cons (.v 9) .nil)) (.c (.int (0)))) (.tup (.cons (.c (.str "stops")) (.cons (.idx (.fn .min1 (.cons (.v 9) .nil)) (.c (.int (1)))) .nil))) (.tup (.cons (.c (.str "dry")) (.cons (.call 12 (.cons (.v 12) (.cons (.v 5) (.cons (.v 6) (.cons (.v 10) .nil))))) .nil))))) (.cons (.ite (.nt (.call 11 (.cons (.call 7 (.cons (.toS false .seq (.cons (.v 12) .nil)) (.cons (.v 5) (.cons (.v 6) .nil)))) (.cons (.v 11) .nil)))) (.cons (.ret (.c (.bool false))) .nil) .nil) .nil)))))))))))) (.cons (.ret (.c (.bool true))) .nil)))
def D13 : Def := ⟨1, 15, none, B13⟩
def prs : List (Str × Def) := [(("is_integer" : Str), D0), (("is_within" : Str), D1), (("is_sized" : Str), D2), (("are_depots" : Str), D3), (("check_depots" : Str), D4), (("dry_at" : Str), D5), (("lots_by_size" : Str), D6), (("stops" : Str), D7), (("_law_hand" : Str), D8), (("_law_draw" : Str), D9), (("_law_some" : Str), D10), (("_law_is" : Str), D11), (("_law_drive" : Str), D12), (("law" : Str), D13)]
abbrev P : Prog := fun i => (prs[i]?).map (·.2)
abbrev fnm : Nat → Option Str := fun i => (prs[i]?).map (·.1)
set_option maxHeartbeats 0 in
theorem c0 : chkSs ⟨N0, fnm, glOf gls⟩ (defScope (top 1)) B0 (defBody (top 1)) = true := by decide +kernel
theorem s0 : FnScope N0 ["thing"] (defScope (top 1)) := ⟨rfl, rfl, rfl, by decide +kernel, rfl, by decide +kernel, by decide +kernel⟩
set_option maxHeartbeats 0 in
theorem c1 : chkSs ⟨N1, fnm, glOf gls⟩ (defScope (top 2)) B1 (defBody (top 2)) = true := by decide +kernel
theorem s1 : FnScope N1 ["thing", "low", "high"] (defScope (top 2)) := ⟨rfl, rfl, rfl, by decide +kernel, rfl, by decide +kernel, by decide +kernel⟩
set_option maxHeartbeats 0 in
theorem c2 : chkSs ⟨N2, fnm, glOf gls⟩ (defScope (top 3)) B2 (defBody (top 3)) = true := by decide +kernel
theorem s2 : FnScope N2 ["thing", "low", "high"] (defScope (top 3)) := ⟨rfl, rfl, rfl, by decide +kernel, rfl, by decide +kernel, by decide +kernel⟩
set_option maxHeartbeats 0 in
theorem c3 : chkSs ⟨N3, fnm, glOf gls⟩ (defScope (top 14)) B3 (defBody (top 14)) = true := by decide +kernel
theorem s3 : FnScope N3 ["thing"] (defScope (top 14)) := ⟨rfl, rfl, rfl, by decide +kernel, rfl, by decide +kernel, by decide +kernel⟩
set_option maxHeartbeats 0 in
theorem c4 : chkSs ⟨N4, fnm, glOf gls⟩ (defScope (top 15)) B4 (defBody (top 15)) = true := by decide +kernel
theorem s4 : FnScope N4 ["some", "t", "way"] (defScope (top 15)) := ⟨rfl, rfl, rfl, by decide +kernel, rfl, by decide +kernel, by decide +kernel⟩
set_option maxHeartbeats 0 in
theorem c5 : chkSs ⟨N5, fnm, glOf gls⟩ (defScope (top 16)) B5 (defBody (top 16)) = true := by decide +kernel
theorem s5 : FnScope N5 ["some", "t", "numbers"] (defScope (top 16)) := ⟨rfl, rfl, rfl, by decide +kernel, rfl, by decide +kernel, by decide +kernel⟩
set_option maxHeartbeats 0 in
theorem c6 : chkSs ⟨N6, fnm, glOf gls⟩ (defScope (top 17)) B6 (defBody (top 17)) = true := by decide +kernel
theorem s6 : FnScope N6 ["many"] (defScope (top 17)) := ⟨rfl, rfl, rfl, by decide +kernel, rfl, by decide +kernel, by decide +kernel⟩
set_option maxHeartbeats 0 in
theorem c7 : chkSs ⟨N7, fnm, glOf gls⟩ (defScope (top 18)) B7 (defBody (top 18)) = true := by decide +kernel
theorem s7 : FnScope N7 ["some", "t", "way"] (defScope (top 18)) := ⟨rfl, rfl, rfl, by decide +kernel, rfl, by decide +kernel, by decide +kernel⟩
set_option maxHeartbeats 0 in
theorem c8 : chkSs ⟨N8, fnm, glOf gls⟩ (defScope (top 20)) B8 (defBody (top 20)) = true := by decide +kernel
theorem s8 : FnScope N8 ["script"] (defScope (top 20)) := ⟨rfl, rfl, rfl, by decide +kernel, rfl, by decide +kernel, by decide +kernel⟩
set_option maxHeartbeats 0 in
theorem c9 : chkSs ⟨N9, fnm, glOf gls⟩ (defScope (top 21)) B9 (defBody (top 21)) = true := by decide +kernel
theorem s9 : FnScope N9 ["hand", "many"] (defScope (top 21)) := ⟨rfl, rfl, rfl, by decide +kernel, rfl, by decide +kernel, by decide +kernel⟩
set_option maxHeartbeats 0 in
theorem c10 : chkSs ⟨N10, fnm, glOf gls⟩ (defScope (top 22)) B10 (defBody (top 22)) = true := by decide +kernel
theorem s10 : FnScope N10 ["hand", "things"] (defScope (top 22)) := ⟨rfl, rfl, rfl, by decide +kernel, rfl, by decide +kernel, by decide +kernel⟩
set_option maxHeartbeats 0 in
theorem c11 : chkSs ⟨N11, fnm, glOf gls⟩ (defScope (top 23)) B11 (defBody (top 23)) = true := by decide +kernel
theorem s11 : FnScope N11 ["told", "due"] (defScope (top 23)) := ⟨rfl, rfl, rfl, by decide +kernel, rfl, by decide +kernel, by decide +kernel⟩
set_option maxHeartbeats 0 in
theorem c12 : chkSs ⟨N12, fnm, glOf gls⟩ (defScope (top 24)) B12 (defBody (top 24)) = true := by decide +kernel
theorem s12 : FnScope N12 ["depots", "tank", "way", "lot"] (defScope (top 24)) := ⟨rfl, rfl, rfl, by decide +kernel, rfl, by decide +kernel, by decide +kernel⟩
set_option maxHeartbeats 0 in
theorem c13 : chkSs ⟨N13, fnm, glOf gls⟩ (defScope (top 25)) B13 (defBody (top 25)) = true := by decide +kernel
theorem s13 : FnScope N13 ["script"] (defScope (top 25)) := ⟨rfl, rfl, rfl, by decide +kernel, rfl, by decide +kernel, by decide +kernel⟩
def fn : List He.DefD := [dD 1 "is_integer", dD 2 "is_within", dD 3 "is_sized", dD 14 "are_depots", dD 15 "check_depots", dD 16 "dry_at", dD 17 "lots_by_size", dD 18 "stops", dD 20 "_law_hand", dD 21 "_law_draw", dD 22 "_law_some", dD 23 "_law_is", dD 24 "_law_drive", dD 25 "law"]
def fa : List He.Fa := [.glo "is_integer", .glo "is_within", .glo "is_sized", .glo "are_depots", .glo "check_depots", .glo "dry_at", .glo "lots_by_size", .glo "stops", .glo "_law_hand", .glo "_law_draw", .glo "_law_some", .glo "_law_is", .glo "_law_drive", .glo "law", .free "len", .free "abs", .free "int", .free "min", .free "max", .free "sum", .free "all", .free "any", .free "sorted", .free "list", .free "tuple", .free "isinstance", .free "range", .free "zip", .free "enumerate", .free "bool", .free "str", .free "dict"]
abbrev Rw : PySem.W.OpenRow := PySem.W.OpenLaw.row PySem.Challenge.rw_ferryhouse_k44_whole_supplied_cars
abbrev hk : PySem.W.Hook := hookB 4 fa fn gls
def ob (s : PySem.W.SharedT) : He.AlD × Bool := obsB 4 fa fn gls (HandSHeadRun.getT s)
theorem ob_eq (s : PySem.W.SharedT) : ob s = hk.obs s.abs := obsB_eq (HandSHeadRun.getT_eq s)
def loose : List PySem.Str := (["is_integer", "is_within", "is_sized", "FerryError", "NoDepots", "NoNumber", "MOST_DEPOTS", "MOST_UNITS", "MOST_WAY", "STOPS", "DRY", "are_depots", "check_depots", "dry_at", "lots_by_size", "stops", "_law_hand", "_law_draw", "_law_some", "_law_is", "_law_drive"] : List PySem.Str) ++ ([] : List PySem.Str)
set_option maxHeartbeats 0 in
theorem run (w : World) : HandSHeadRun.RunEq Rw (PySem.W.view Rw.prog [25]) hk ob 4000 loose w := by
  intro os
  kernel_rfl
section
variable {K : PySem.W.Frag} {h : Heap} {mg : Str → Option Value}
theorem e0 (X : K.In h) (G : h.Ns mainGlobals mg) (c : He.SaysD fa fn K) : ∃ (d : Def) (a : Addr) (fd : FuncData) (N ps : List Str) (params : Arguments) (body : List Stmt) (scope : Scope), P 0 = some d ∧ mg "is_integer" = some (.ref a) ∧ FunD K "is_integer" "is_integer" params body scope [] [] a fd ∧ Binds K fd ps [] ∧ FnScope N ps scope ∧
    chkSs ⟨N, fnm, glOf gls⟩ scope d.body body = true ∧ d.np = ps.length ∧ d.nv = N.length ∧ ps.length ≤ N.length := by
  obtain ⟨fd, F⟩ := c.def_ 0 (d := dD 1 "is_integer") rfl
  exact ⟨D0, _, fd, N0, ["thing"], _, _, _, rfl, He.glo_ok X G (c.fact 0 (f := .glo "is_integer") rfl), F, F.bindsN fun _ _ _ _ _ _ us hl => match us, hl with | [_], _ => rfl, s0, c0, rfl, rfl, by decide⟩
theorem e1 (X : K.In h) (G : h.Ns mainGlobals mg) (c : He.SaysD fa fn K) : ∃ (d : Def) (a : Addr) (fd : FuncData) (N ps : List Str) (params : Arguments) (body : List Stmt) (scope : Scope), P 1 = some d ∧ mg "is_within" = some (.ref a) ∧ FunD K "is_within" "is_within" params body scope [] [] a fd ∧ Binds K fd ps [] ∧ FnScope N ps scope ∧
    chkSs ⟨N, fnm, glOf gls⟩ scope d.body body = true ∧ d.np = ps.length ∧ d.nv = N.length ∧ ps.length ≤ N.length := by
  obtain ⟨fd, F⟩ := c.def_ 1 (d := dD 2 "is_within") rfl
  exact ⟨D1, _, fd, N1, ["thing", "low", "high"], _, _, _, rfl, He.glo_ok X G (c.fact 1 (f := .glo "is_within") rfl), F, F.bindsN fun _ _ _ _ _ _ us hl => match us, hl with | [_, _, _], _ => rfl, s1, c1, rfl, rfl, by decide⟩
theorem e2 (X : K.In h) (G : h.Ns mainGlobals mg) (c : He.SaysD fa fn K) : ∃ (d : Def) (a : Addr) (fd : FuncData) (N ps : List Str) (params : Arguments) (body : List Stmt) (scope : Scope), P 2 = some d ∧ mg "is_sized" = some (.ref a) ∧ FunD K "is_sized" "is_sized" params body scope [] [] a fd ∧ Binds K fd ps [] ∧ FnScope N ps scope ∧
    chkSs ⟨N, fnm, glOf gls⟩ scope d.body body = true ∧ d.np = ps.length ∧ d.nv = N.length ∧ ps.length ≤ N.length := by
  obtain ⟨fd, F⟩ := c.def_ 2 (d := dD 3 "is_sized") rfl
  exact ⟨D2, _, fd, N2, ["thing", "low", "high"], _, _, _, rfl, He.glo_ok X G (c.fact 2 (f := .glo "is_sized") rfl), F, F.bindsN fun _ _ _ _ _ _ us hl => match us, hl with | [_, _, _], _ => rfl, s2, c2, rfl, rfl, by decide⟩
theorem e3 (X : K.In h) (G : h.Ns mainGlobals mg) (c : He.SaysD fa fn K) : ∃ (d : Def) (a : Addr) (fd : FuncData) (N ps : List Str) (params : Arguments) (body : List Stmt) (scope : Scope), P 3 = some d ∧ mg "are_depots" = some (.ref a) ∧ FunD K "are_depots" "are_depots" params body scope [] [] a fd ∧ Binds K fd ps [] ∧ FnScope N ps scope ∧
    chkSs ⟨N, fnm, glOf gls⟩ scope d.body body = true ∧ d.np = ps.length ∧ d.nv = N.length ∧ ps.length ≤ N.length := by
  obtain ⟨fd, F⟩ := c.def_ 3 (d := dD 14 "are_depots") rfl
  exact ⟨D3, _, fd, N3, ["thing"], _, _, _, rfl, He.glo_ok X G (c.fact 3 (f := .glo "are_depots") rfl), F, F.bindsN fun _ _ _ _ _ _ us hl => match us, hl with | [_], _ => rfl, s3, c3, rfl, rfl, by decide⟩
theorem e4 (X : K.In h) (G : h.Ns mainGlobals mg) (c : He.SaysD fa fn K) : ∃ (d : Def) (a : Addr) (fd : FuncData) (N ps : List Str) (params : Arguments) (body : List Stmt) (scope : Scope), P 4 = some d ∧ mg "check_depots" = some (.ref a) ∧ FunD K "check_depots" "check_depots" params body scope [] [] a fd ∧ Binds K fd ps [] ∧ FnScope N ps scope ∧
    chkSs ⟨N, fnm, glOf gls⟩ scope d.body body = true ∧ d.np = ps.length ∧ d.nv = N.length ∧ ps.length ≤ N.length := by
  obtain ⟨fd, F⟩ := c.def_ 4 (d := dD 15 "check_depots") rfl
  exact ⟨D4, _, fd, N4, ["some", "t", "way"], _, _, _, rfl, He.glo_ok X G (c.fact 4 (f := .glo "check_depots") rfl), F, F.bindsN fun _ _ _ _ _ _ us hl => match us, hl with | [_, _, _], _ => rfl, s4, c4, rfl, rfl, by decide⟩
theorem e5 (X : K.In h) (G : h.Ns mainGlobals mg) (c : He.SaysD fa fn K) : ∃ (d : Def) (a : Addr) (fd : FuncData) (N ps : List Str) (params : Arguments) (body : List Stmt) (scope : Scope), P 5 = some d ∧ mg "dry_at" = some (.ref a) ∧ FunD K "dry_at" "dry_at" params body scope [] [] a fd ∧ Binds K fd ps [] ∧ FnScope N ps scope ∧
    chkSs ⟨N, fnm, glOf gls⟩ scope d.body body = true ∧ d.np = ps.length ∧ d.nv = N.length ∧ ps.length ≤ N.length := by
  obtain ⟨fd, F⟩ := c.def_ 5 (d := dD 16 "dry_at") rfl
  exact ⟨D5, _, fd, N5, ["some", "t", "numbers"], _, _, _, rfl, He.glo_ok X G (c.fact 5 (f := .glo "dry_at") rfl), F, F.bindsN fun _ _ _ _ _ _ us hl => match us, hl with | [_, _, _], _ => rfl, s5, c5, rfl, rfl, by decide⟩
theorem e6 (X : K.In h) (G : h.Ns mainGlobals mg) (c : He.SaysD fa fn K) : ∃ (d : Def) (a : Addr) (fd : FuncData) (N ps : List Str) (params : Arguments) (body : List Stmt) (scope : Scope), P 6 = some d ∧ mg "lots_by_size" = some (.ref a) ∧ FunD K "lots_by_size" "lots_by_size" params body scope [] [] a fd ∧ Binds K fd ps [] ∧ FnScope N ps scope ∧
    chkSs ⟨N, fnm, glOf gls⟩ scope d.body body = true ∧ d.np = ps.length ∧ d.nv = N.length ∧ ps.length ≤ N.length := by
  obtain ⟨fd, F⟩ := c.def_ 6 (d := dD 17 "lots_by_size") rfl
  exact ⟨D6, _, fd, N6, ["many"], _, _, _, rfl, He.glo_ok X G (c.fact 6 (f := .glo "lots_by_size") rfl), F, F.bindsN fun _ _ _ _ _ _ us hl => match us, hl with | [_], _ => rfl, s6, c6, rfl, rfl, by decide⟩
theorem e7 (X : K.In h) (G : h.Ns mainGlobals mg) (c : He.SaysD fa fn K) : ∃ (d : Def) (a : Addr) (fd : FuncData) (N ps : List Str) (params : Arguments) (body : List Stmt) (scope : Scope), P 7 = some d ∧ mg "stops" = some (.ref a) ∧ FunD K "stops" "stops" params body scope [] [] a fd ∧ Binds K fd ps [] ∧ FnScope N ps scope ∧
    chkSs ⟨N, fnm, glOf gls⟩ scope d.body body = true ∧ d.np = ps.length ∧ d.nv = N.length ∧ ps.length ≤ N.length := by
  obtain ⟨fd, F⟩ := c.def_ 7 (d := dD 18 "stops") rfl
  exact ⟨D7, _, fd, N7, ["some", "t", "way"], _, _, _, rfl, He.glo_ok X G (c.fact 7 (f := .glo "stops") rfl), F, F.bindsN fun _ _ _ _ _ _ us hl => match us, hl with | [_, _, _], _ => rfl, s7, c7, rfl, rfl, by decide⟩
theorem e8 (X : K.In h) (G : h.Ns mainGlobals mg) (c : He.SaysD fa fn K) : ∃ (d : Def) (a : Addr) (fd : FuncData) (N ps : List Str) (params : Arguments) (body : List Stmt) (scope : Scope), P 8 = some d ∧ mg "_law_hand" = some (.ref a) ∧ FunD K "_law_hand" "_law_hand" params body scope [] [] a fd ∧ Binds K fd ps [] ∧ FnScope N ps scope ∧
    chkSs ⟨N, fnm, glOf gls⟩ scope d.body body = true ∧ d.np = ps.length ∧ d.nv = N.length ∧ ps.length ≤ N.length := by
  obtain ⟨fd, F⟩ := c.def_ 8 (d := dD 20 "_law_hand") rfl
  exact ⟨D8, _, fd, N8, ["script"], _, _, _, rfl, He.glo_ok X G (c.fact 8 (f := .glo "_law_hand") rfl), F, F.bindsN fun _ _ _ _ _ _ us hl => match us, hl with | [_], _ => rfl, s8, c8, rfl, rfl, by decide⟩
theorem e9 (X : K.In h) (G : h.Ns mainGlobals mg) (c : He.SaysD fa fn K) : ∃ (d : Def) (a : Addr) (fd : FuncData) (N ps : List Str) (params : Arguments) (body : List Stmt) (scope : Scope), P 9 = some d ∧ mg "_law_draw" = some (.ref a) ∧ FunD K "_law_draw" "_law_draw" params body scope [] [] a fd ∧ Binds K fd ps [] ∧ FnScope N ps scope ∧
    chkSs ⟨N, fnm, glOf gls⟩ scope d.body body = true ∧ d.np = ps.length ∧ d.nv = N.length ∧ ps.length ≤ N.length := by
  obtain ⟨fd, F⟩ := c.def_ 9 (d := dD 21 "_law_draw") rfl
  exact ⟨D9, _, fd, N9, ["hand", "many"], _, _, _, rfl, He.glo_ok X G (c.fact 9 (f := .glo "_law_draw") rfl), F, F.bindsN fun _ _ _ _ _ _ us hl => match us, hl with | [_, _], _ => rfl, s9, c9, rfl, rfl, by decide⟩
theorem e10 (X : K.In h) (G : h.Ns mainGlobals mg) (c : He.SaysD fa fn K) : ∃ (d : Def) (a : Addr) (fd : FuncData) (N ps : List Str) (params : Arguments) (body : List Stmt) (scope : Scope), P 10 = some d ∧ mg "_law_some" = some (.ref a) ∧ FunD K "_law_some" "_law_some" params body scope [] [] a fd ∧ Binds K fd ps [] ∧ FnScope N ps scope ∧
    chkSs ⟨N, fnm, glOf gls⟩ scope d.body body = true ∧ d.np = ps.length ∧ d.nv = N.length ∧ ps.length ≤ N.length := by
  obtain ⟨fd, F⟩ := c.def_ 10 (d := dD 22 "_law_some") rfl
  exact ⟨D10, _, fd, N10, ["hand", "things"], _, _, _, rfl, He.glo_ok X G (c.fact 10 (f := .glo "_law_some") rfl), F, F.bindsN fun _ _ _ _ _ _ us hl => match us, hl with | [_, _], _ => rfl, s10, c10, rfl, rfl, by decide⟩
theorem e11 (X : K.In h) (G : h.Ns mainGlobals mg) (c : He.SaysD fa fn K) : ∃ (d : Def) (a : Addr) (fd : FuncData) (N ps : List Str) (params : Arguments) (body : List Stmt) (scope : Scope), P 11 = some d ∧ mg "_law_is" = some (.ref a) ∧ FunD K "_law_is" "_law_is" params body scope [] [] a fd ∧ Binds K fd ps [] ∧ FnScope N ps scope ∧
    chkSs ⟨N, fnm, glOf gls⟩ scope d.body body = true ∧ d.np = ps.length ∧ d.nv = N.length ∧ ps.length ≤ N.length := by
  obtain ⟨fd, F⟩ := c.def_ 11 (d := dD 23 "_law_is") rfl
  exact ⟨D11, _, fd, N11, ["told", "due"], _, _, _, rfl, He.glo_ok X G (c.fact 11 (f := .glo "_law_is") rfl), F, F.bindsN fun _ _ _ _ _ _ us hl => match us, hl with | [_, _], _ => rfl, s11, c11, rfl, rfl, by decide⟩
theorem e12 (X : K.In h) (G : h.Ns mainGlobals mg) (c : He.SaysD fa fn K) : ∃ (d : Def) (a : Addr) (fd : FuncData) (N ps : List Str) (params : Arguments) (body : List Stmt) (scope : Scope), P 12 = some d ∧ mg "_law_drive" = some (.ref a) ∧ FunD K "_law_drive" "_law_drive" params body scope [] [] a fd ∧ Binds K fd ps [] ∧ FnScope N ps scope ∧
    chkSs ⟨N, fnm, glOf gls⟩ scope d.body body = true ∧ d.np = ps.length ∧ d.nv = N.length ∧ ps.length ≤ N.length := by
  obtain ⟨fd, F⟩ := c.def_ 12 (d := dD 24 "_law_drive") rfl
  exact ⟨D12, _, fd, N12, ["depots", "tank", "way", "lot"], _, _, _, rfl, He.glo_ok X G (c.fact 12 (f := .glo "_law_drive") rfl), F, F.bindsN fun _ _ _ _ _ _ us hl => match us, hl with | [_, _, _, _], _ => rfl, s12, c12, rfl, rfl, by decide⟩
theorem e13 (X : K.In h) (G : h.Ns mainGlobals mg) (c : He.SaysD fa fn K) : ∃ (d : Def) (a : Addr) (fd : FuncData) (N ps : List Str) (params : Arguments) (body : List Stmt) (scope : Scope), P 13 = some d ∧ mg "law" = some (.ref a) ∧ FunD K "law" "law" params body scope [] [] a fd ∧ Binds K fd ps [] ∧ FnScope N ps scope ∧
    chkSs ⟨N, fnm, glOf gls⟩ scope d.body body = true ∧ d.np = ps.length ∧ d.nv = N.length ∧ ps.length ≤ N.length := by
  obtain ⟨fd, F⟩ := c.def_ 13 (d := dD 25 "law") rfl
  exact ⟨D13, _, fd, N13, ["script"], _, _, _, rfl, He.glo_ok X G (c.fact 13 (f := .glo "law") rfl), F, F.bindsN fun _ _ _ _ _ _ us hl => match us, hl with | [_], _ => rfl, s13, c13, rfl, rfl, by decide⟩
theorem fx (X : K.In h) (G : h.Ns mainGlobals mg) (c : He.SaysD fa fn K) (g : glsB gls K = true) : Fx P fnm (glOf gls) K mg := by
  refine ⟨fun x hx => ?_, glo_of X G g, fun f x hx => ?_⟩
  · simp only [bnames, List.mem_cons, List.not_mem_nil, or_false] at hx
    rcases hx with rfl | rfl | rfl | rfl | rfl | rfl | rfl | rfl | rfl | rfl | rfl | rfl | rfl | rfl | rfl | rfl | rfl | rfl
    · exact He.free_ok X G (c.fact 14 (f := .free "len") rfl)
    · exact He.free_ok X G (c.fact 15 (f := .free "abs") rfl)
    · exact He.free_ok X G (c.fact 16 (f := .free "int") rfl)
    · exact He.free_ok X G (c.fact 17 (f := .free "min") rfl)
    · exact He.free_ok X G (c.fact 18 (f := .free "max") rfl)
    · exact He.free_ok X G (c.fact 19 (f := .free "sum") rfl)
    · exact He.free_ok X G (c.fact 20 (f := .free "all") rfl)
    · exact He.free_ok X G (c.fact 21 (f := .free "any") rfl)
    · exact He.free_ok X G (c.fact 22 (f := .free "sorted") rfl)
    · exact He.free_ok X G (c.fact 23 (f := .free "list") rfl)
    · exact He.free_ok X G (c.fact 24 (f := .free "tuple") rfl)
    · exact He.free_ok X G (c.fact 25 (f := .free "isinstance") rfl)
    · exact He.free_ok X G (c.fact 26 (f := .free "range") rfl)
    · exact He.free_ok X G (c.fact 27 (f := .free "zip") rfl)
    · exact He.free_ok X G (c.fact 28 (f := .free "enumerate") rfl)
    · exact He.free_ok X G (c.fact 29 (f := .free "bool") rfl)
    · exact He.free_ok X G (c.fact 30 (f := .free "str") rfl)
    · exact He.free_ok X G (c.fact 31 (f := .free "dict") rfl)
  · match f, hx with
    | 0, hx => cases hx; exact e0 X G c
    | 1, hx => cases hx; exact e1 X G c
    | 2, hx => cases hx; exact e2 X G c
    | 3, hx => cases hx; exact e3 X G c
    | 4, hx => cases hx; exact e4 X G c
    | 5, hx => cases hx; exact e5 X G c
    | 6, hx => cases hx; exact e6 X G c
    | 7, hx => cases hx; exact e7 X G c
    | 8, hx => cases hx; exact e8 X G c
    | 9, hx => cases hx; exact e9 X G c
    | 10, hx => cases hx; exact e10 X G c
    | 11, hx => cases hx; exact e11 X G c
    | 12, hx => cases hx; exact e12 X G c
    | 13, hx => cases hx; exact e13 X G c
    | n + 14, hx => cases hx
end
end FhL

set_option maxHeartbeats 4000000
namespace FhL
open PySem PySem.Spec PyProof.Rows L2 Fh
abbrev cI (i : Int) : Cell := some (.int i, .fz)
theorem bok {α β : Type} (a : α) (f : α → Fh.R β) : (Fh.R.ok a).bind f = f a := rfl
abbrev dq (p : Int × Int) : PyData := .tuple [.int p.1, .int p.2]
theorem addI (a b : Int) : arith .add (.int a) (.int b) = .ok (.int (a + b)) := rfl
theorem subI (a b : Int) : arith .sub (.int a) (.int b) = .ok (.int (a - b)) := rfl
theorem gtI (a b : Int) : cmpv .gt (.int a) (.int b) = .ok (decide (b < a)) := rfl
theorem leI (a b : Int) : cmpv .le (.int a) (.int b) = .ok (decide (a ≤ b)) := rfl
theorem geI (a b : Int) : cmpv .ge (.int a) (.int b) = .ok (decide (b ≤ a)) := rfl
theorem ltI (a b : Int) : cmpv .lt (.int a) (.int b) = .ok (decide (a < b)) := rfl
theorem lenI (xs : List PyData) : applyFn .len [.list xs] = .ok (.int xs.length) := rfl
theorem min2I (a b : Int) : applyFn .min2 [.int a, .int b] = .ok (.int (if b < a then b else a)) := rfl
theorem inI (k : Int) (ys : List PyData) (h : SeqAt.shaped (.tuple ys) = true) : cmpv .isin (.int k) (.tuple ys) = .ok (inAny (.int k) ys) := by
  show (if SeqAt.shaped (.int k) = true ∧ SeqAt.shaped (.tuple ys) = true then Fh.R.ok (inAny (.int k) ys) else .st) = _
  rw [if_pos ⟨rfl, h⟩]
/-- how far dry_at gets: place, held, the number of the next depot -/
def dryL (t : Int) (ys : List PyData) : Nat → List (Int × Int) → Int → Int → Int
  | _, [], place, held => place + held
  | k, (th, fu) :: ds, place, held => if place + held < th then place + held else
      dryL t ys (k + 1) ds th (if inAny (.int k) ys = true then (if held - (th - place) + fu < t then held - (th - place) + fu else t) else held - (th - place))
abbrev bd5 : Sms := (.cons (.ite (.cmp .gt (.v 6) (.bin .add (.v 3) (.v 4))) (.cons (.ret (.bin .add (.v 3) (.v 4))) .nil) .nil) (.cons (.aug 4 .sub (.bin .sub (.v 6) (.v 3))) (.cons (.asg (.v 3) (.v 6)) (.cons (.ite (.cmp .isin (.v 5) (.v 2)) (.cons (.asg (.v 4) (.fn .min2 (.cons (.v 1) (.cons (.bin .add (.v 4) (.v 7)) .nil)))) .nil) .nil) .nil))))
abbrev tg5 : Tg := (.t (.cons (.v 5) (.cons (.t (.cons (.v 6) (.cons (.v 7) .nil))) .nil)))
section
variable (refs : Refs) (call : Calls) (fuel : Nat) (S : Cell) (t : Int) (ys : List PyData) (hs : SeqAt.shaped (.tuple ys) = true)
include hs
theorem it5 (k th fu place held : Int) :
    evSs refs call fuel bd5 [S, cI t, some (.tuple ys, .fz), cI place, cI held, cI k, cI th, cI fu] =
      if place + held < th then .ok (.rt (.int (place + held)) false [S, cI t, some (.tuple ys, .fz), cI place, cI held, cI k, cI th, cI fu])
      else .ok (.nx [S, cI t, some (.tuple ys, .fz), cI th, cI (if inAny (.int k) ys = true then (if held - (th - place) + fu < t then held - (th - place) + fu else t) else held - (th - place)), cI k, cI th, cI fu]) := by
  by_cases h1 : place + held < th
  · simp [evSs, evS, evT, evR, evE, evP, agains, peek, Fh.again, getv, bok, frz, addI, subI, gtI, truth, h1, isM]
  · by_cases h2 : inAny (.int k) ys = true
    · simp [evSs, evS, evT, evR, evE, evP, agains, peek, Fh.again, getv, bok, frz, addI, subI, gtI, truth, h1, isM, asInt, asgT, fgOf, inI k ys hs, h2, min2I]
    · simp [evSs, evS, evT, evR, evE, evP, agains, peek, Fh.again, getv, bok, frz, addI, subI, gtI, truth, h1, isM, asInt, asgT, fgOf, inI k ys hs, h2, min2I]
theorem lp5 : ∀ (ds : List (Int × Int)) (k : Nat) (place held : Int) (c5 c6 c7 : Cell), ∃ fl, forF tg5 (fun ρ => evSs refs call fuel bd5 ρ) (((ds.map dq).zipIdx k).map fun p => PyData.tuple [.int p.2, p.1]) [S, cI t, some (.tuple ys, .fz), cI place, cI held, c5, c6, c7] = .ok fl ∧
    ((∃ ρ', fl = .rt (.int (dryL t ys k ds place held)) false ρ') ∨ ∃ p h c5 c6 c7, fl = .nx [S, cI t, some (.tuple ys, .fz), cI p, cI h, c5, c6, c7] ∧ p + h = dryL t ys k ds place held)
  | [], k, place, held, c5, c6, c7 => ⟨_, rfl, .inr ⟨place, held, c5, c6, c7, rfl, rfl⟩⟩
  | (th, fu) :: ds, k, place, held, c5, c6, c7 => by
    have e : forF tg5 (fun ρ => evSs refs call fuel bd5 ρ) ((((((th, fu) :: ds)).map dq).zipIdx k).map fun p => PyData.tuple [.int p.2, p.1]) [S, cI t, some (.tuple ys, .fz), cI place, cI held, c5, c6, c7] =
        (evSs refs call fuel bd5 [S, cI t, some (.tuple ys, .fz), cI place, cI held, cI (k : Int), cI th, cI fu]).bind fun
          | .nx ρ2 => forF tg5 (fun ρ => evSs refs call fuel bd5 ρ) (((ds.map dq).zipIdx (k + 1)).map fun p => PyData.tuple [.int p.2, p.1]) ρ2
          | .ct ρ2 => forF tg5 (fun ρ => evSs refs call fuel bd5 ρ) (((ds.map dq).zipIdx (k + 1)).map fun p => PyData.tuple [.int p.2, p.1]) ρ2
          | .br ρ2 => Fh.R.ok (.nx ρ2)
          | .rt d f ρ2 => Fh.R.ok (.rt d f ρ2) := rfl
    rw [e, it5 refs call fuel S t ys hs]
    by_cases h1 : place + held < th
    · rw [if_pos h1]
      exact ⟨_, rfl, .inl ⟨_, congrArg (fun z => Fl.rt (.int z) false [S, cI t, some (.tuple ys, .fz), cI place, cI held, cI (k : Int), cI th, cI fu]) (if_pos h1).symm⟩⟩
    · rw [if_neg h1, bok]
      obtain ⟨fl, e2, h2⟩ := lp5 ds (k + 1) th (if inAny (.int k) ys = true then (if held - (th - place) + fu < t then held - (th - place) + fu else t) else held - (th - place)) (cI k) (cI th) (cI fu)
      refine ⟨fl, e2, ?_⟩
      have e3 : dryL t ys k ((th, fu) :: ds) place held = dryL t ys (k + 1) ds th (if inAny (.int k) ys = true then (if held - (th - place) + fu < t then held - (th - place) + fu else t) else held - (th - place)) := by
        show (if place + held < th then place + held else _) = _
        rw [if_neg h1]
      rw [e3]
      exact h2
end
abbrev FU : Nat := 1000
def ov (_ : Nat) : Ovr := fun _ => none
theorem hov : ∀ fuel f g, ov fuel f = some g → ∀ ds r, g ds = .ok r → callN P fuel 1 f ds = .ok r := fun _ _ _ h => by cases h
abbrev cM (n : Nat) : Calls := callM P (ov FU) 1 FU n
abbrev rP : Refs := refsOf P
theorem dry_ok (n : Nat) (ds : List (Int × Int)) (t : Int) (ys : List PyData) (hs : SeqAt.shaped (.tuple ys) = true) : cM (n + 1) 5 [.tuple (ds.map dq), .int t, .tuple ys] = .ok (.int (dryL t ys 0 ds 0 t), false, none) := by
  obtain ⟨fl, e1, h⟩ := lp5 rP (cM n) FU (some (.tuple (ds.map dq), .fz)) t ys hs ds 0 0 t none none none
  have e : cM (n + 1) 5 [.tuple (ds.map dq), .int t, .tuple ys] = (((forF tg5 (fun ρ => evSs rP (cM n) FU bd5 ρ) (((ds.map dq).zipIdx 0).map fun p => PyData.tuple [.int p.2, p.1]) [some (.tuple (ds.map dq), .fz), cI t, some (.tuple ys, .fz), cI 0, cI t, none, none, none]).bind fun
      | .nx ρ1 => evSs rP (cM n) FU (.cons (.ret (.bin .add (.v 3) (.v 4))) .nil) ρ1
      | r => Fh.R.ok r).bind (outOf none)) := rfl
  rw [e, e1, bok]
  rcases h with ⟨ρ', rfl⟩ | ⟨p, hh, c5, c6, c7, rfl, h⟩
  · rfl
  · rw [← h]
    rfl
/-- how far _law_drive gets -/
def drvL (t w : Int) (ys : List PyData) : Nat → List (Int × Int) → Int → Int → Int
  | _, [], fuel, here => if here + fuel < w then here + fuel else w
  | k, (pl, mu) :: ds, fuel, here => if inAny (.int k) ys = true ∧ pl ≤ w then
      (if fuel < pl - here then here + fuel else drvL t w ys (k + 1) ds (if fuel - (pl - here) + mu < t then fuel - (pl - here) + mu else t) pl)
    else drvL t w ys (k + 1) ds fuel here
abbrev bd12 : Sms := (.cons (.ite (.bop true (.cmp .isin (.v 6) (.v 3)) (.cmp .le (.v 7) (.v 2))) (.cons (.ite (.cmp .gt (.bin .sub (.v 7) (.v 5)) (.v 4)) (.cons (.ret (.bin .add (.v 5) (.v 4))) .nil) .nil) (.cons (.par [4, 5] (.cons (.fn .min2 (.cons (.v 1) (.cons (.bin .add (.bin .sub (.v 4) (.bin .sub (.v 7) (.v 5))) (.v 8)) .nil))) (.cons (.v 7) .nil))) .nil)) .nil) .nil)
abbrev tg12 : Tg := (.t (.cons (.v 6) (.cons (.t (.cons (.v 7) (.cons (.v 8) .nil))) .nil)))
section
variable (refs : Refs) (call : Calls) (fuel : Nat) (S : Cell) (t w : Int) (ys : List PyData) (hs : SeqAt.shaped (.tuple ys) = true)
include hs
theorem it12 (k pl mu f h : Int) :
    evSs refs call fuel bd12 [S, cI t, cI w, some (.tuple ys, .fz), cI f, cI h, cI k, cI pl, cI mu] =
      if inAny (.int k) ys = true ∧ pl ≤ w then (if f < pl - h then .ok (.rt (.int (h + f)) false [S, cI t, cI w, some (.tuple ys, .fz), cI f, cI h, cI k, cI pl, cI mu])
        else .ok (.nx [S, cI t, cI w, some (.tuple ys, .fz), cI (if f - (pl - h) + mu < t then f - (pl - h) + mu else t), cI pl, cI k, cI pl, cI mu]))
      else .ok (.nx [S, cI t, cI w, some (.tuple ys, .fz), cI f, cI h, cI k, cI pl, cI mu]) := by
  by_cases h1 : inAny (.int k) ys = true
  · by_cases h2 : pl ≤ w
    · by_cases h3 : f < pl - h
      · simp [evSs, evS, evT, evR, evE, evP, agains, peek, Fh.again, getv, bok, frz, addI, subI, gtI, leI, truth, h1, h2, h3, isM, inI k ys hs]
      · simp [evSs, evS, evT, evR, evE, evP, evF, agains, peek, Fh.again, getv, bok, frz, addI, subI, gtI, leI, truth, h1, h2, h3, isM, inI k ys hs, min2I, asgP, fgOf]
    · simp [evSs, evS, evT, evR, evE, evP, agains, peek, Fh.again, getv, bok, frz, addI, subI, gtI, leI, truth, h1, h2, isM, inI k ys hs]
  · simp [evSs, evS, evT, evR, evE, evP, agains, peek, Fh.again, getv, bok, frz, addI, subI, gtI, leI, truth, h1, isM, inI k ys hs, flat]
theorem lp12 : ∀ (ds : List (Int × Int)) (k : Nat) (f h : Int) (c6 c7 c8 : Cell), ∃ fl, forF tg12 (fun ρ => evSs refs call fuel bd12 ρ) (((ds.map dq).zipIdx k).map fun p => PyData.tuple [.int p.2, p.1]) [S, cI t, cI w, some (.tuple ys, .fz), cI f, cI h, c6, c7, c8] = .ok fl ∧
    ((∃ ρ', fl = .rt (.int (drvL t w ys k ds f h)) false ρ') ∨ ∃ f' h' c6 c7 c8, fl = .nx [S, cI t, cI w, some (.tuple ys, .fz), cI f', cI h', c6, c7, c8] ∧ (if h' + f' < w then h' + f' else w) = drvL t w ys k ds f h)
  | [], k, f, h, c6, c7, c8 => ⟨_, rfl, .inr ⟨f, h, c6, c7, c8, rfl, rfl⟩⟩
  | (pl, mu) :: ds, k, f, h, c6, c7, c8 => by
    have e : forF tg12 (fun ρ => evSs refs call fuel bd12 ρ) ((((((pl, mu) :: ds)).map dq).zipIdx k).map fun p => PyData.tuple [.int p.2, p.1]) [S, cI t, cI w, some (.tuple ys, .fz), cI f, cI h, c6, c7, c8] =
        (evSs refs call fuel bd12 [S, cI t, cI w, some (.tuple ys, .fz), cI f, cI h, cI (k : Int), cI pl, cI mu]).bind fun
          | .nx ρ2 => forF tg12 (fun ρ => evSs refs call fuel bd12 ρ) (((ds.map dq).zipIdx (k + 1)).map fun p => PyData.tuple [.int p.2, p.1]) ρ2
          | .ct ρ2 => forF tg12 (fun ρ => evSs refs call fuel bd12 ρ) (((ds.map dq).zipIdx (k + 1)).map fun p => PyData.tuple [.int p.2, p.1]) ρ2
          | .br ρ2 => Fh.R.ok (.nx ρ2)
          | .rt d f ρ2 => Fh.R.ok (.rt d f ρ2) := rfl
    rw [e, it12 refs call fuel S t w ys hs]
    by_cases h1 : inAny (.int k) ys = true ∧ pl ≤ w
    · rw [if_pos h1]
      have e3 : drvL t w ys k ((pl, mu) :: ds) f h = (if f < pl - h then h + f else drvL t w ys (k + 1) ds (if f - (pl - h) + mu < t then f - (pl - h) + mu else t) pl) := if_pos h1
      by_cases h2 : f < pl - h
      · rw [if_pos h2] at e3 ⊢
        exact ⟨_, rfl, .inl ⟨_, congrArg (fun z => Fl.rt (.int z) false [S, cI t, cI w, some (.tuple ys, .fz), cI f, cI h, cI (k : Int), cI pl, cI mu]) e3.symm⟩⟩
      · rw [if_neg h2] at e3 ⊢
        rw [bok, e3]
        exact lp12 ds (k + 1) _ pl (cI k) (cI pl) (cI mu)
    · have e3 : drvL t w ys k ((pl, mu) :: ds) f h = drvL t w ys (k + 1) ds f h := if_neg h1
      rw [if_neg h1, bok, e3]
      exact lp12 ds (k + 1) f h (cI k) (cI pl) (cI mu)
end
theorem drv_ok (n : Nat) (ds : List (Int × Int)) (t w : Int) (ys : List PyData) (hs : SeqAt.shaped (.tuple ys) = true) : cM (n + 1) 12 [.list (ds.map dq), .int t, .int w, .tuple ys] = .ok (.int (drvL t w ys 0 ds t 0), false, none) := by
  obtain ⟨fl, e1, h⟩ := lp12 rP (cM n) FU (some (.list (ds.map dq), .fz)) t w ys hs ds 0 t 0 none none none
  have e : cM (n + 1) 12 [.list (ds.map dq), .int t, .int w, .tuple ys] = (((forF tg12 (fun ρ => evSs rP (cM n) FU bd12 ρ) (((ds.map dq).zipIdx 0).map fun p => PyData.tuple [.int p.2, p.1]) [some (.list (ds.map dq), .fz), cI t, cI w, some (.tuple ys, .fz), cI t, cI 0, none, none, none]).bind fun
      | .nx ρ1 => evSs rP (cM n) FU (.cons (.ret (.fn .min2 (.cons (.v 2) (.cons (.bin .add (.v 5) (.v 4)) .nil)))) .nil) ρ1
      | r => Fh.R.ok r).bind (outOf none)) := rfl
  rw [e, e1, bok]
  rcases h with ⟨ρ', rfl⟩ | ⟨f', h', c6, c7, c8, rfl, h⟩
  · rfl
  · rw [← h]
    rfl
/-! ### the plain law -/
/-- places that ascend, behind p -/
def Asc : Int → List (Int × Int) → Prop
  | _, [] => True
  | p, (q, u) :: ds => p < q ∧ 0 < u ∧ Asc q ds
theorem dry_ge {t : Int} {ys : List PyData} : ∀ {ds : List (Int × Int)} {k : Nat} {place held : Int}, Asc place ds → 0 ≤ held → held ≤ t → place + held ≤ dryL t ys k ds place held
  | [], k, place, held, _, _, _ => Int.le_refl _
  | (th, fu) :: ds, k, place, held, ⟨a1, a2, a3⟩, h0, h1 => by
    unfold dryL
    split
    · exact Int.le_refl _
    · rename_i c
      have := dry_ge (t := t) (ys := ys) (k := k + 1) (ds := ds) (place := th) (held := (if inAny (.int k) ys = true then (if held - (th - place) + fu < t then held - (th - place) + fu else t) else held - (th - place))) a3 (by split <;> (try split) <;> omega) (by split <;> (try split) <;> omega)
      refine Int.le_trans ?_ this
      split <;> (try split) <;> omega
theorem drv_far {t w : Int} {ys : List PyData} : ∀ {ds : List (Int × Int)} {k : Nat} {f h : Int}, (∀ q ∈ ds, h + f < q.1 ∨ w < q.1) → drvL t w ys k ds f h = if h + f < w then h + f else w
  | [], _, _, _, _ => rfl
  | (pl, mu) :: ds, k, f, h, hq => by
    unfold drvL
    have hp := hq (pl, mu) List.mem_cons_self
    have ih := drv_far (t := t) (w := w) (ys := ys) (k := k + 1) (f := f) (h := h) fun q hq' => hq q (List.mem_cons_of_mem _ hq')
    split
    · rename_i c1
      have : f < pl - h := by
        rcases hp with z | z
        · have z : h + f < pl := z
          omega
        · have z : w < pl := z
          omega
      rw [if_pos this, if_pos (by omega)]
    · exact ih
theorem asc_mem : ∀ {ds : List (Int × Int)} {p : Int} {q : Int × Int}, Asc p ds → q ∈ ds → p < q.1
  | (th, fu) :: ds, p, q, ⟨a1, a2, a3⟩, h => by
    rcases List.mem_cons.mp h with rfl | h
    · exact a1
    · exact Int.lt_trans a1 (asc_mem a3 h)
theorem drv_eq {t w : Int} {ys : List PyData} : ∀ {ds : List (Int × Int)} {k : Nat} {place held f h : Int}, Asc place ds → 0 ≤ held → held ≤ t → place + held = h + f → drvL t w ys k ds f h = if dryL t ys k ds place held < w then dryL t ys k ds place held else w
  | [], k, place, held, f, h, _, _, _, e => by
    show (if h + f < w then h + f else w) = if place + held < w then place + held else w
    rw [e]
  | (th, fu) :: ds, k, place, held, f, h, ⟨a1, a2, a3⟩, h0, h1, e => by
    by_cases c : place + held < th
    · have e1 : dryL t ys k ((th, fu) :: ds) place held = place + held := if_pos c
      rw [e1, e]
      refine drv_far fun q hq => .inl ?_
      rcases List.mem_cons.mp hq with rfl | hq
      · show h + f < th
        omega
      · have := asc_mem a3 hq
        omega
    · have e1 : dryL t ys k ((th, fu) :: ds) place held = dryL t ys (k + 1) ds th (if inAny (.int k) ys = true then (if held - (th - place) + fu < t then held - (th - place) + fu else t) else held - (th - place)) := if_neg c
      rw [e1]
      by_cases h2 : inAny (.int k) ys = true
      · rw [if_pos h2]
        by_cases h3 : th ≤ w
        · have e2 : drvL t w ys k ((th, fu) :: ds) f h = drvL t w ys (k + 1) ds (if f - (th - h) + fu < t then f - (th - h) + fu else t) th := (if_pos ⟨h2, h3⟩).trans (if_neg (by omega))
          have e3 : f - (th - h) = held - (th - place) := by omega
          rw [e2, e3]
          exact drv_eq a3 (by split <;> omega) (by split <;> omega) rfl
        · have e2 : drvL t w ys k ((th, fu) :: ds) f h = drvL t w ys (k + 1) ds f h := if_neg (fun z => h3 z.2)
          rw [e2, drv_far fun q hq => .inr (by have := asc_mem a3 hq; omega)]
          have := dry_ge (t := t) (ys := ys) (k := k + 1) (ds := ds) (place := th) (held := (if held - (th - place) + fu < t then held - (th - place) + fu else t)) a3 (by split <;> omega) (by split <;> omega)
          rw [if_neg (by omega), if_neg]
          split at this <;> split <;> omega
      · rw [if_neg h2]
        have e2 : drvL t w ys k ((th, fu) :: ds) f h = drvL t w ys (k + 1) ds f h := if_neg (fun z => h2 z.1)
        rw [e2]
        exact drv_eq a3 (by omega) (by omega) (by omega)
theorem dry_mono {t : Int} {ys zs : List PyData} : ∀ {ds : List (Int × Int)} {k : Nat} {place held held' : Int}, Asc place ds → 0 ≤ held → held ≤ held' → held' ≤ t → (∀ j : Nat, k ≤ j → j < k + ds.length → inAny (.int j) ys = true → inAny (.int j) zs = true) → dryL t ys k ds place held ≤ dryL t zs k ds place held'
  | [], k, place, held, held', _, _, h1, _, _ => by
    show place + held ≤ place + held'
    omega
  | (th, fu) :: ds, k, place, held, held', ⟨a1, a2, a3⟩, h0, h1, h2, hsub => by
    have sub2 : ∀ j : Nat, k + 1 ≤ j → j < k + 1 + ds.length → inAny (.int j) ys = true → inAny (.int j) zs = true := fun j g1 g2 => hsub j (by omega) (by simp only [List.length_cons]; omega)
    by_cases c : place + held < th
    · have e1 : dryL t ys k ((th, fu) :: ds) place held = place + held := if_pos c
      have := dry_ge (t := t) (ys := zs) (k := k) (ds := (th, fu) :: ds) (place := place) (held := held') ⟨a1, a2, a3⟩ (by omega) h2
      rw [e1]
      omega
    · have e1 : dryL t ys k ((th, fu) :: ds) place held = dryL t ys (k + 1) ds th (if inAny (.int k) ys = true then (if held - (th - place) + fu < t then held - (th - place) + fu else t) else held - (th - place)) := if_neg c
      have e2 : dryL t zs k ((th, fu) :: ds) place held' = dryL t zs (k + 1) ds th (if inAny (.int k) zs = true then (if held' - (th - place) + fu < t then held' - (th - place) + fu else t) else held' - (th - place)) := if_neg (by omega)
      rw [e1, e2]
      have hk := hsub k (Nat.le_refl _) (by simp only [List.length_cons]; omega)
      refine dry_mono a3 ?_ ?_ ?_ sub2
      · split <;> (try split) <;> omega
      · by_cases g1 : inAny (.int k) ys = true
        · rw [if_pos g1, if_pos (hk g1)]
          split <;> split <;> omega
        · rw [if_neg g1]
          split <;> (try split) <;> omega
      · split <;> (try split) <;> omega
end FhL

set_option maxHeartbeats 4000000
namespace FhL
open PySem PySem.Spec PyProof.Rows L2 Fh
abbrev eL (l : List Int) : PyData := .tuple (l.map .int)
abbrev pL (l : List Int) : PyData := .tuple [.int l.length, eL l]
/-- all lots of n depots, as the law makes them; as lots_by_size orders them -/
def LT : Nat → List (List Int)
  | 0 => [[]]
  | 1 => [[], [0]]
  | 2 => [[], [0], [1], [0, 1]]
  | 3 => [[], [0], [1], [0, 1], [2], [0, 2], [1, 2], [0, 1, 2]]
  | 4 => [[], [0], [1], [0, 1], [2], [0, 2], [1, 2], [0, 1, 2], [3], [0, 3], [1, 3], [0, 1, 3], [2, 3], [0, 2, 3], [1, 2, 3], [0, 1, 2, 3]]
  | 5 => [[], [0], [1], [0, 1], [2], [0, 2], [1, 2], [0, 1, 2], [3], [0, 3], [1, 3], [0, 1, 3], [2, 3], [0, 2, 3], [1, 2, 3], [0, 1, 2, 3], [4], [0, 4], [1, 4], [0, 1, 4], [2, 4], [0, 2, 4], [1, 2, 4], [0, 1, 2, 4], [3, 4], [0, 3, 4], [1, 3, 4], [0, 1, 3, 4], [2, 3, 4], [0, 2, 3, 4], [1, 2, 3, 4], [0, 1, 2, 3, 4]]
  | 6 => [[], [0], [1], [0, 1], [2], [0, 2], [1, 2], [0, 1, 2], [3], [0, 3], [1, 3], [0, 1, 3], [2, 3], [0, 2, 3], [1, 2, 3], [0, 1, 2, 3], [4], [0, 4], [1, 4], [0, 1, 4], [2, 4], [0, 2, 4], [1, 2, 4], [0, 1, 2, 4], [3, 4], [0, 3, 4], [1, 3, 4], [0, 1, 3, 4], [2, 3, 4], [0, 2, 3, 4], [1, 2, 3, 4], [0, 1, 2, 3, 4], [5], [0, 5], [1, 5], [0, 1, 5], [2, 5], [0, 2, 5], [1, 2, 5], [0, 1, 2, 5], [3, 5], [0, 3, 5], [1, 3, 5], [0, 1, 3, 5], [2, 3, 5], [0, 2, 3, 5], [1, 2, 3, 5], [0, 1, 2, 3, 5], [4, 5], [0, 4, 5], [1, 4, 5], [0, 1, 4, 5], [2, 4, 5], [0, 2, 4, 5], [1, 2, 4, 5], [0, 1, 2, 4, 5], [3, 4, 5], [0, 3, 4, 5], [1, 3, 4, 5], [0, 1, 3, 4, 5], [2, 3, 4, 5], [0, 2, 3, 4, 5], [1, 2, 3, 4, 5], [0, 1, 2, 3, 4, 5]]
  | _ => []
def SO : Nat → List (List Int)
  | 0 => [[]]
  | 1 => [[], [0]]
  | 2 => [[], [0], [1], [0, 1]]
  | 3 => [[], [0], [1], [2], [0, 1], [0, 2], [1, 2], [0, 1, 2]]
  | 4 => [[], [0], [1], [2], [3], [0, 1], [0, 2], [0, 3], [1, 2], [1, 3], [2, 3], [0, 1, 2], [0, 1, 3], [0, 2, 3], [1, 2, 3], [0, 1, 2, 3]]
  | 5 => [[], [0], [1], [2], [3], [4], [0, 1], [0, 2], [0, 3], [0, 4], [1, 2], [1, 3], [1, 4], [2, 3], [2, 4], [3, 4], [0, 1, 2], [0, 1, 3], [0, 1, 4], [0, 2, 3], [0, 2, 4], [0, 3, 4], [1, 2, 3], [1, 2, 4], [1, 3, 4], [2, 3, 4], [0, 1, 2, 3], [0, 1, 2, 4], [0, 1, 3, 4], [0, 2, 3, 4], [1, 2, 3, 4], [0, 1, 2, 3, 4]]
  | 6 => [[], [0], [1], [2], [3], [4], [5], [0, 1], [0, 2], [0, 3], [0, 4], [0, 5], [1, 2], [1, 3], [1, 4], [1, 5], [2, 3], [2, 4], [2, 5], [3, 4], [3, 5], [4, 5], [0, 1, 2], [0, 1, 3], [0, 1, 4], [0, 1, 5], [0, 2, 3], [0, 2, 4], [0, 2, 5], [0, 3, 4], [0, 3, 5], [0, 4, 5], [1, 2, 3], [1, 2, 4], [1, 2, 5], [1, 3, 4], [1, 3, 5], [1, 4, 5], [2, 3, 4], [2, 3, 5], [2, 4, 5], [3, 4, 5], [0, 1, 2, 3], [0, 1, 2, 4], [0, 1, 2, 5], [0, 1, 3, 4], [0, 1, 3, 5], [0, 1, 4, 5], [0, 2, 3, 4], [0, 2, 3, 5], [0, 2, 4, 5], [0, 3, 4, 5], [1, 2, 3, 4], [1, 2, 3, 5], [1, 2, 4, 5], [1, 3, 4, 5], [2, 3, 4, 5], [0, 1, 2, 3, 4], [0, 1, 2, 3, 5], [0, 1, 2, 4, 5], [0, 1, 3, 4, 5], [0, 2, 3, 4, 5], [1, 2, 3, 4, 5], [0, 1, 2, 3, 4, 5]]
  | _ => []
theorem by0 : cM 5 6 [.int 0] = .ok (.list ((SO 0).map eL), true, none) := by kernel_rfl
theorem by1 : cM 5 6 [.int 1] = .ok (.list ((SO 1).map eL), true, none) := by kernel_rfl
theorem by2 : cM 5 6 [.int 2] = .ok (.list ((SO 2).map eL), true, none) := by kernel_rfl
theorem by3 : cM 5 6 [.int 3] = .ok (.list ((SO 3).map eL), true, none) := by kernel_rfl
theorem by4 : cM 5 6 [.int 4] = .ok (.list ((SO 4).map eL), true, none) := by kernel_rfl
theorem by5 : cM 5 6 [.int 5] = .ok (.list ((SO 5).map eL), true, none) := by kernel_rfl
theorem by6 : cM 5 6 [.int 6] = .ok (.list ((SO 6).map eL), true, none) := by kernel_rfl
def rkB (n : Nat) : Bool := (SO n).all fun x => (SO n).all fun y => W.dataLt (pL x) (pL y) == decide ((SO n).idxOf x < (SO n).idxOf y)
def memB (n : Nat) : Bool := ((LT n).all fun x => (SO n).contains x) && ((SO n).all fun x => (LT n).contains x) && decide ((SO n).Nodup) && (SO n).contains ((List.range n).map fun (i : Nat) => (i : Int)) && ((SO n).all fun l => SeqAt.shaped (eL l)) && cmpB ((LT n).map pL)
theorem rk0 : rkB 0 = true := by decide +kernel
theorem mem0 : memB 0 = true := by decide +kernel
theorem rk1 : rkB 1 = true := by decide +kernel
theorem mem1 : memB 1 = true := by decide +kernel
theorem rk2 : rkB 2 = true := by decide +kernel
theorem mem2 : memB 2 = true := by decide +kernel
theorem rk3 : rkB 3 = true := by decide +kernel
theorem mem3 : memB 3 = true := by decide +kernel
theorem rk4 : rkB 4 = true := by decide +kernel
theorem mem4 : memB 4 = true := by decide +kernel
theorem rk5 : rkB 5 = true := by decide +kernel
theorem mem5 : memB 5 = true := by decide +kernel
theorem rk6 : rkB 6 = true := by decide +kernel
theorem mem6 : memB 6 = true := by decide +kernel
end FhL

set_option maxHeartbeats 4000000
namespace FhL
open PySem PySem.Spec PyProof.Rows L2 Fh
/-! ### comprehensions as maps and filters -/
theorem fold_ff {step : List PV × Fh.Env → PV → Fh.R (List PV × Fh.Env)} {ρ : Fh.Env} {p : PV → Bool} {g : PV → PV} : ∀ (xs : List PV) (acc : List PV), (∀ x ∈ xs, ∀ acc, step (acc, ρ) x = .ok (if p x = true then acc ++ [g x] else acc, ρ)) → xs.foldlM step (acc, ρ) = .ok (acc ++ (xs.filter p).map g, ρ)
  | [], acc, _ => by
    show Fh.R.ok (acc, ρ) = _
    simp
  | x :: xs, acc, h => by
    show (step (acc, ρ) x).bind (fun b => xs.foldlM step b) = _
    rw [h x List.mem_cons_self, bok, fold_ff xs _ fun y hy => h y (List.mem_cons_of_mem _ hy)]
    by_cases c : p x = true
    · rw [if_pos c, List.filter_cons_of_pos c]
      simp
    · rw [if_neg c, List.filter_cons_of_neg c]
theorem fold_mm {step : List PV × Fh.Env → PV → Fh.R (List PV × Fh.Env)} {ρ : Fh.Env} {g : PV → PV} (xs : List PV) (acc : List PV) (h : ∀ x ∈ xs, ∀ acc, step (acc, ρ) x = .ok (acc ++ [g x], ρ)) : xs.foldlM step (acc, ρ) = .ok (acc ++ xs.map g, ρ) := by
  have := fold_ff (p := fun _ => true) (g := g) xs acc (step := step) (ρ := ρ) (fun x hx acc => by rw [h x hx]; rfl)
  rwa [List.filter_eq_self.mpr (fun _ _ => rfl)] at this
/-! ### check_depots lets right ones -/
theorem isz (n : Nat) (a b : Int) : cM (n + 1) 2 [dq (a, b), .int 2, .int 2] = .ok (.bool true, false, none) := by rfl
theorem r0 : refsOf P 0 = none := rfl
theorem r1 : refsOf P 1 = none := rfl
theorem r2 : refsOf P 2 = none := rfl
theorem r3 : refsOf P 3 = none := rfl
theorem r4 : refsOf P 4 = none := rfl
theorem r5 : refsOf P 5 = none := rfl
theorem r6 : refsOf P 6 = none := rfl
theorem r7 : refsOf P 7 = none := rfl
theorem r12 : refsOf P 12 = none := rfl
theorem isint (n : Nat) (i : Int) : cM (n + 1) 0 [.int i] = .ok (.bool true, false, none) := by rfl
theorem iswith (n : Nat) {i lo hi : Int} (h1 : lo ≤ i) (h2 : i ≤ hi) : cM (n + 2) 1 [.int i, .int lo, .int hi] = .ok (.bool true, false, none) := by
  have e : cM (n + 2) 1 [.int i, .int lo, .int hi] = runDef P FU (cM (n + 1)) D1 [.int i, .int lo, .int hi] := rfl
  rw [e]
  simp [runDef, D1, B1, startE, evSs, evS, evR, evE, evP, peek, Fh.again, agains, getv, callE, r0, bok, isint n, truth, flat, frzs, leI, h1, h2, outOf, refOut]
theorem issz (n : Nat) {xs : List PyData} (h : xs.length ≤ 10) : cM (n + 1) 2 [.tuple xs, .int 0, .int 10] = .ok (.bool true, false, none) := by
  have e : cM (n + 1) 2 [.tuple xs, .int 0, .int 10] = runDef P FU (cM n) D2 [.tuple xs, .int 0, .int 10] := rfl
  have h2 : ((xs.length : Int) ≤ 10) := by omega
  have lenT : applyFn .len [.tuple xs] = .ok (.int xs.length) := rfl
  rw [e]
  simp [runDef, D2, B2, startE, evSs, evS, evR, evE, evP, peek, Fh.again, agains, getv, callE, bok, truth, flat, frzs, leI, lenT, isTy, h2, outOf, refOut]
theorem comp_run {refs : Refs} {call : Calls} {own : List (Str × Nat)} {t : Tg} {kd : ItK} {src c : Exs} {m : Ex} {ρ ρ1 ρ2 : Fh.Env} {ds xs ys : List PV} (h1 : evL refs call src ρ = .ok (ds, ρ1)) (h2 : items kd ds = .ok xs) (h3 : noneOwned ρ1 (own.map (·.2)) = true) (h4 : xs.length ≤ sizeLine)
    (h5 : xs.foldlM (stepC refs call own t c m) ([], wipe ρ1 (own.map (·.2))) = .ok (ys, ρ2)) : evE refs call (.comp own t kd src c m) ρ = .ok (.list ys, true, unwipe ρ1 ρ2 (own.map (·.2))) := by
  have e : evE refs call (.comp own t kd src c m) ρ = ((evL refs call src ρ).bind fun (ds, ρ1) => (items kd ds).bind fun xs =>
      if noneOwned ρ1 (own.map (·.2)) = true ∧ xs.length ≤ sizeLine then
        (xs.foldlM (stepC refs call own t c m) ([], wipe ρ1 (own.map (·.2)))).bind fun r =>
        .ok (.list r.1, true, unwipe ρ1 r.2 (own.map (·.2)))
      else .st) := rfl
  rw [e, h1, bok]
  show (items kd ds).bind _ = _
  rw [h2, bok]
  show (if noneOwned ρ1 (own.map (·.2)) = true ∧ xs.length ≤ sizeLine then _ else _) = _
  rw [if_pos ⟨h3, h4⟩, h5]
  rfl
abbrev tr (xs : List PyData) : PyData := .list (xs.map fun _ => .bool true)
theorem allT (xs : List PyData) : applyFn .all [tr xs] = .ok (.bool true) := by
  have h : ∀ xs : List PyData, asBools (xs.map fun _ => PyData.bool true) = .ok (xs.map fun _ => true) := by
    intro xs
    induction xs with
    | nil => rfl
    | cons x xs ih =>
      show (asBools (xs.map fun _ => PyData.bool true)).bind (fun is => Fh.R.ok (true :: is)) = _
      rw [ih]
      rfl
  show (asBools (xs.map fun _ => PyData.bool true)).bind (fun bs => Fh.R.ok (PyData.bool (bs.all id))) = _
  rw [h, bok]
  have : ((xs.map fun _ => true).all id) = true := by simp
  rw [this]
abbrev B3' (a1 a2 a3 : Ex) : Sms := (.cons (.ite (.bop false (.nt (.call 2 (.cons (.v 0) (.cons (.c (.int (0))) (.cons (.g "MOST_DEPOTS" (.int (10))) .nil))))) (.nt (.fn .all (.cons a1 .nil)))) (.cons (.ret (.c (.bool false))) .nil) .nil) (.cons (.ite (.nt (.fn .all (.cons a2 .nil))) (.cons (.ret (.c (.bool false))) .nil) .nil) (.cons (.ret (.fn .all (.cons a3 .nil))) .nil)))
theorem b3run (refs : Refs) (call : Calls) {xs ys1 ys2 ys3 : List PyData} {a1 a2 a3 : Ex} (hr : refs 2 = none) (e0 : call 2 [.tuple xs, .int 0, .int 10] = .ok (.bool true, false, none))
    (p1 : peek a1 [some (.tuple xs, .fz), none, none, none] (evE refs call a1 [some (.tuple xs, .fz), none, none, none]) = .ok (tr ys1, [some (.tuple xs, .fz), none, none, none])) (g1 : ∀ d ρ, Fh.again a1 d ρ = .ok d)
    (p2 : peek a2 [some (.tuple xs, .fz), none, none, none] (evE refs call a2 [some (.tuple xs, .fz), none, none, none]) = .ok (tr ys2, [some (.tuple xs, .fz), none, none, none])) (g2 : ∀ d ρ, Fh.again a2 d ρ = .ok d)
    (p3 : peek a3 [some (.tuple xs, .fz), none, none, none] (evE refs call a3 [some (.tuple xs, .fz), none, none, none]) = .ok (tr ys3, [some (.tuple xs, .fz), none, none, none])) (g3 : ∀ d ρ, Fh.again a3 d ρ = .ok d) :
    evSs refs call FU (B3' a1 a2 a3) [some (.tuple xs, .fz), none, none, none] = .ok (.rt (.bool true) false [some (.tuple xs, .fz), none, none, none]) := by
  have hn : ∀ (a : Ex) (ρ : Fh.Env), peek (.fn .all (.cons a .nil)) ρ (evE refs call (.fn .all (.cons a .nil)) ρ) = (evE refs call (.fn .all (.cons a .nil)) ρ).bind fun p => .ok (p.1, p.2.2) := fun a ρ => rfl
  have ev : ∀ (a : Ex) (ys : List PyData), peek a [some (.tuple xs, .fz), none, none, none] (evE refs call a [some (.tuple xs, .fz), none, none, none]) = .ok (tr ys, [some (.tuple xs, .fz), none, none, none]) → (∀ d ρ, Fh.again a d ρ = .ok d) → evE refs call (.fn .all (.cons a .nil)) [some (.tuple xs, .fz), none, none, none] = .ok (.bool true, false, [some (.tuple xs, .fz), none, none, none]) := fun a ys p g => by
    have e : evE refs call (.fn .all (.cons a .nil)) [some (.tuple xs, .fz), none, none, none] = (((peek a [some (.tuple xs, .fz), none, none, none] (evE refs call a [some (.tuple xs, .fz), none, none, none])).bind fun (x, ρ1) => (evP refs call .nil ρ1).bind fun (xs, ρ2) => .ok (x :: xs, ρ2)).bind fun (zs, ρ1) => (agains (.cons a .nil) zs ρ1).bind fun ds => (applyFn .all ds).bind fun z => .ok (z, false, ρ1)) := rfl
    rw [e, p, bok]
    show (agains (.cons a .nil) [tr ys] _).bind _ = _
    have e2 : agains (.cons a .nil) [tr ys] [some (.tuple xs, .fz), none, none, none] = ((Fh.again a (tr ys) [some (.tuple xs, .fz), none, none, none]).bind fun x => Fh.R.ok [x]) := rfl
    rw [e2, g, bok, bok, allT]
    rfl
  have f1 := ev a1 ys1 p1 g1
  have f2 := ev a2 ys2 p2 g2
  have f3 := ev a3 ys3 p3 g3
  have t1 : evE refs call (.call 2 (.cons (.v 0) (.cons (.c (.int (0))) (.cons (.g "MOST_DEPOTS" (.int (10))) .nil)))) [some (.tuple xs, .fz), none, none, none] = .ok (.bool true, false, [some (.tuple xs, .fz), none, none, none]) := by
    simp [evE, evP, peek, Fh.again, agains, getv, callE, hr, e0, bok, flat]
  generalize hx1 : (Ex.fn .all (.cons a1 .nil)) = x1 at f1
  generalize hx2 : (Ex.fn .all (.cons a2 .nil)) = x2 at f2
  generalize hx3 : (Ex.fn .all (.cons a3 .nil)) = x3 at f3
  generalize hx0 : (Ex.call 2 (.cons (.v 0) (.cons (.c (.int (0))) (.cons (.g "MOST_DEPOTS" (.int (10))) .nil)))) = x0 at t1
  have q0 : ∀ r, peek x0 [some (.tuple xs, .fz), none, none, none] r = r.bind fun p => .ok (p.1, p.2.2) := fun r => by subst hx0; rfl
  have q1 : ∀ r, peek x1 [some (.tuple xs, .fz), none, none, none] r = r.bind fun p => .ok (p.1, p.2.2) := fun r => by subst hx1; rfl
  have q2 : ∀ r, peek x2 [some (.tuple xs, .fz), none, none, none] r = r.bind fun p => .ok (p.1, p.2.2) := fun r => by subst hx2; rfl
  have q3 : evR refs call x3 [some (.tuple xs, .fz), none, none, none] = evE refs call x3 [some (.tuple xs, .fz), none, none, none] := by subst hx3; rfl
  have hB : B3' a1 a2 a3 = (.cons (.ite (.bop false (.nt x0) (.nt x1)) (.cons (.ret (.c (.bool false))) .nil) .nil) (.cons (.ite (.nt x2) (.cons (.ret (.c (.bool false))) .nil) .nil) (.cons (.ret x3) .nil))) := by
    rw [← hx0, ← hx1, ← hx2, ← hx3]
  rw [hB]
  have qn : ∀ (a : Ex) (ρ : Fh.Env) r, peek (.nt a) ρ r = r.bind fun p => .ok (p.1, p.2.2) := fun _ _ _ => rfl
  have qb : ∀ (n : Bool) (a b : Ex) (ρ : Fh.Env) r, peek (.bop n a b) ρ r = r.bind fun p => .ok (p.1, p.2.2) := fun _ _ _ _ _ => rfl
  simp [evSs, evS, evT, evE, q0, t1, q1, f1, q2, f2, q3, f3, bok, truth, qn, qb]
abbrev C1 : Ex := (.comp [("depot", 1)] (.v 1) .seq (.cons (.v 0) .nil) .nil (.call 2 (.cons (.v 1) (.cons (.c (.int (2))) (.cons (.c (.int (2))) .nil)))))
abbrev C2i : Ex := (.comp [("one", 2)] (.v 2) .seq (.cons (.v 1) .nil) .nil (.call 1 (.cons (.v 2) (.cons (.c (.int (1))) (.cons (.g "MOST_UNITS" (.int (100))) .nil)))))
abbrev C2 : Ex := (.comp [("depot", 1)] (.v 1) .seq (.cons (.v 0) .nil) .nil (.fn .all (.cons C2i .nil)))
abbrev C3 : Ex := (.comp [("one", 2), ("other", 3)] (.t (.cons (.v 2) (.cons (.v 3) .nil))) .zip (.cons (.v 0) (.cons (.slc (.v 0) (.cons (.c (.int (1))) .nil) .nil) .nil)) .nil (.cmp .lt (.idx (.v 2) (.c (.int (0)))) (.idx (.v 3) (.c (.int (0))))))
abbrev r0e (xs : List PyData) : Fh.Env := [some (.tuple xs, .fz), none, none, none]
theorem c1_ok (ds : List (Int × Int)) (hl : ds.length ≤ 10) : evE rP (cM 3) C1 (r0e (ds.map dq)) = .ok (tr (ds.map dq), true, r0e (ds.map dq)) := by
  have h24 := sizeLine_eq
  refine comp_run (ρ1 := r0e (ds.map dq)) (ρ2 := r0e (ds.map dq)) (ds := [.tuple (ds.map dq)]) (xs := ds.map dq) rfl rfl rfl (by rw [List.length_map]; omega) ?_
  refine fold_mm (g := fun _ => PyData.bool true) (ds.map dq) [] fun x hx acc => ?_
  obtain ⟨p, _, rfl⟩ := List.mem_map.mp hx
  rfl
theorem st2 (call : Calls) (S : Cell) (a b : Int) (acc : List PyData) (ea : call 1 [.int a, .int 1, .int 100] = .ok (.bool true, false, none)) (eb : call 1 [.int b, .int 1, .int 100] = .ok (.bool true, false, none)) :
    stepC rP call [("depot", 1)] (.v 1) .nil (.fn .all (.cons C2i .nil)) (acc, [S, none, none, none]) (dq (a, b)) = .ok (acc ++ [.bool true], [S, none, none, none]) := by
  have i1 : evE rP call C2i [S, some (dq (a, b), .fz), none, none] = .ok (tr [.int a, .int b], true, [S, some (dq (a, b), .fz), none, none]) := by
    refine comp_run (ρ1 := [S, some (dq (a, b), .fz), none, none]) (ρ2 := [S, some (dq (a, b), .fz), none, none]) (ds := [dq (a, b)]) (xs := [.int a, .int b]) rfl rfl rfl (by rw [sizeLine_eq]; show 2 ≤ 16777216; decide) ?_
    refine fold_mm (g := fun _ => PyData.bool true) [.int a, .int b] [] fun x hx acc => ?_
    have one : ∀ i : Int, call 1 [.int i, .int 1, .int 100] = .ok (.bool true, false, none) → stepC rP call [("one", 2)] (.v 2) .nil (.call 1 (.cons (.v 2) (.cons (.c (.int (1))) (.cons (.g "MOST_UNITS" (.int (100))) .nil)))) (acc, [S, some (dq (a, b), .fz), none, none]) (.int i) = .ok (acc ++ [.bool true], [S, some (dq (a, b), .fz), none, none]) := fun i e => by
      simp [stepC, asgT, bok, evC, evE, evP, peek, Fh.again, agains, getv, callE, r1, e, flat, Fh.wipe]
    rcases List.mem_cons.mp hx with rfl | hx
    · exact one a ea
    · rw [List.mem_singleton.mp hx]
      exact one b eb
  have e : stepC rP call [("depot", 1)] (.v 1) .nil (.fn .all (.cons C2i .nil)) (acc, [S, none, none, none]) (dq (a, b)) =
      ((((evE rP call C2i [S, some (dq (a, b), .fz), none, none]).bind fun p => Fh.R.ok (p.1, p.2.2)).bind fun (x, ρ1) => Fh.R.ok ([x], ρ1)).bind fun (zs, ρ1) => (agains (.cons C2i .nil) zs ρ1).bind fun ds => (applyFn .all ds).bind fun z => Fh.R.ok (z, false, ρ1)).bind fun (y, _, ρ4) => Fh.R.ok (acc ++ [y], Fh.wipe ρ4 [1]) := rfl
  rw [e, i1]
  rfl
theorem c2_ok (ds : List (Int × Int)) (hl : ds.length ≤ 10) (hb : ∀ p ∈ ds, (1 ≤ p.1 ∧ p.1 ≤ 100) ∧ 1 ≤ p.2 ∧ p.2 ≤ 100) : evE rP (cM 3) C2 (r0e (ds.map dq)) = .ok (tr (ds.map dq), true, r0e (ds.map dq)) := by
  have h24 := sizeLine_eq
  refine comp_run (ρ1 := r0e (ds.map dq)) (ρ2 := r0e (ds.map dq)) (ds := [.tuple (ds.map dq)]) (xs := ds.map dq) rfl rfl rfl (by rw [List.length_map]; omega) ?_
  refine fold_mm (g := fun _ => PyData.bool true) (ds.map dq) [] fun x hx acc => ?_
  obtain ⟨p, hp, rfl⟩ := List.mem_map.mp hx
  obtain ⟨⟨h1, h2⟩, h3, h4⟩ := hb p hp
  exact st2 (cM 3) _ p.1 p.2 acc (iswith 1 h1 h2) (iswith 1 h3 h4)
theorem cut1 (xs : List PyData) : cut xs (some 1) none = xs.drop 1 := by
  unfold cut
  cases xs with
  | nil => rfl
  | cons x xs =>
    simp [HT.sIx]
theorem asc_zip : ∀ {ds : List (Int × Int)} {p : Int}, Asc p ds → ∀ q ∈ ds.zip (ds.drop 1), q.1.1 < q.2.1
  | [], _, _, q, h => by cases h
  | [_], _, _, q, h => by cases h
  | a :: b :: ds, p, ⟨_, _, c1, c2, c3⟩, q, h => by
    have h : q ∈ (a, b) :: (b :: ds).zip ds := h
    rcases List.mem_cons.mp h with rfl | h
    · exact c1
    · exact asc_zip (ds := b :: ds) ⟨c1, c2, c3⟩ q h
theorem c3_ok (ds : List (Int × Int)) (hl : ds.length ≤ 10) (ha : Asc 0 ds) : ∃ zs, evE rP (cM 3) C3 (r0e (ds.map dq)) = .ok (tr zs, true, r0e (ds.map dq)) := by
  have h24 := sizeLine_eq
  refine ⟨_, comp_run (ρ1 := r0e (ds.map dq)) (ρ2 := r0e (ds.map dq)) (ds := [.tuple (ds.map dq), .tuple ((ds.map dq).drop 1)]) (xs := ((ds.map dq).zip ((ds.map dq).drop 1)).map fun p => .tuple [p.1, p.2]) ?_ rfl rfl (by rw [List.length_map, List.length_zip, List.length_map]; omega) (fold_mm (g := fun _ => PyData.bool true) _ [] fun x hx acc => ?_)⟩
  · have e : evL rP (cM 3) (.cons (.v 0) (.cons (.slc (.v 0) (.cons (.c (.int (1))) .nil) .nil) .nil)) (r0e (ds.map dq)) = .ok ([.tuple (ds.map dq), .tuple (cut (ds.map dq) (some 1) none)], r0e (ds.map dq)) := rfl
    rw [e, cut1]
  · obtain ⟨q, hq, rfl⟩ := List.mem_map.mp hx
    rw [← List.map_drop, List.zip_map] at hq
    obtain ⟨⟨a, b⟩, hab, rfl⟩ := List.mem_map.mp hq
    have hlt := asc_zip ha _ hab
    have hd : decide (a.1 < b.1) = true := decide_eq_true hlt
    show Fh.R.ok (acc ++ [PyData.bool (decide (a.1 < b.1))], r0e (ds.map dq)) = Fh.R.ok (acc ++ [PyData.bool true], r0e (ds.map dq))
    rw [hd]
theorem ar_ok (ds : List (Int × Int)) (hl : ds.length ≤ 10) (ha : Asc 0 ds) (hb : ∀ p ∈ ds, (1 ≤ p.1 ∧ p.1 ≤ 100) ∧ 1 ≤ p.2 ∧ p.2 ≤ 100) : cM 4 3 [.tuple (ds.map dq)] = .ok (.bool true, false, none) := by
  obtain ⟨zs, e3⟩ := c3_ok ds hl ha
  have e := b3run rP (cM 3) (xs := ds.map dq) (a1 := C1) (a2 := C2) (a3 := C3) r2 (issz 2 (by rw [List.length_map]; exact hl)) (by rw [c1_ok ds hl]; rfl) (fun _ _ => rfl) (by rw [c2_ok ds hl hb]; rfl) (fun _ _ => rfl) (by rw [e3]; rfl) (fun _ _ => rfl)
  have q : cM 4 3 [.tuple (ds.map dq)] = (evSs rP (cM 3) FU (B3' C1 C2 C3) (r0e (ds.map dq))).bind (outOf none) := rfl
  rw [q, e]
  rfl
theorem chk_ok (ds : List (Int × Int)) {t w : Int} (hl : ds.length ≤ 10) (ha : Asc 0 ds) (hb : ∀ p ∈ ds, (1 ≤ p.1 ∧ p.1 ≤ 100) ∧ 1 ≤ p.2 ∧ p.2 ≤ 100) (ht : 1 ≤ t ∧ t ≤ 100) (hw : 1 ≤ w ∧ w ≤ 200) : cM 5 4 [.tuple (ds.map dq), .int t, .int w] = .ok (.none, false, none) := by
  have e1 := ar_ok ds hl ha hb
  have e2 := iswith 2 ht.1 ht.2
  have e3 := iswith 2 hw.1 hw.2
  have e : cM 5 4 [.tuple (ds.map dq), .int t, .int w] = runDef P FU (cM 4) D4 [.tuple (ds.map dq), .int t, .int w] := rfl
  rw [e]
  generalize cM 4 = call at e1 e2 e3
  generalize ds.map dq = xs at e1
  simp [runDef, D4, B4, startE, evSs, evS, evT, evE, evP, peek, Fh.again, agains, getv, callE, r1, r3, bok, e1, e2, e3, truth, flat, outOf, refOut]
/-! ### stops -/
theorem upT (n : Nat) : (Fh.upTo 0 n) = ((List.range n).map fun (i : Nat) => (i : Int)).map PyData.int := by
  unfold Fh.upTo
  rw [List.map_map]
  refine List.map_congr_left fun i _ => ?_
  show PyData.int (0 + (i : Int)) = .int i
  rw [Int.zero_add]
end FhL

set_option maxHeartbeats 4000000
namespace FhL
open PySem PySem.Spec PyProof.Rows L2 Fh
/-! ### comprehensions as maps and filters -/
abbrev bd7 : Sms := (.cons (.ite (.cmp .ge (.call 5 (.cons (.v 0) (.cons (.v 1) (.cons (.v 3) .nil)))) (.v 2)) (.cons (.ret (.tup (.cons (.g "STOPS" (.str "stops")) (.cons (.v 3) .nil)))) .nil) .nil) .nil)
section
variable (call : Calls) (xs : List PyData) (t w : Int) (W : List Int → Int)
theorem it7 (l : List Int) (e : call 5 [.tuple xs, .int t, eL l] = .ok (.int (W l), false, none)) :
    evSs rP call FU bd7 [some (.tuple xs, .fz), cI t, cI w, some (eL l, .fz)] = if w ≤ W l then .ok (.rt (.tuple [.str "stops", eL l]) false [some (.tuple xs, .fz), cI t, cI w, some (eL l, .fz)]) else .ok (.nx [some (.tuple xs, .fz), cI t, cI w, some (eL l, .fz)]) := by
  by_cases h : w ≤ W l
  · simp [evSs, evS, evT, evR, evE, evL, evP, peek, Fh.again, agains, getv, callE, r5, bok, e, geI, truth, flat, h, frz, sizeLine_eq]
  · simp [evSs, evS, evT, evR, evE, evL, evP, peek, Fh.again, agains, getv, callE, r5, bok, e, geI, truth, flat, h, frz, sizeLine_eq]
theorem lp7 : ∀ (ls : List (List Int)) (c3 : Cell) {l : List Int}, (∀ l ∈ ls, call 5 [.tuple xs, .int t, eL l] = .ok (.int (W l), false, none)) → ls.find? (fun l => decide (w ≤ W l)) = some l →
    ∃ ρ', forF (.v 3) (fun ρ => evSs rP call FU bd7 ρ) (ls.map eL) [some (.tuple xs, .fz), cI t, cI w, c3] = .ok (.rt (.tuple [.str "stops", eL l]) false ρ')
  | [], _, _, _, h => by cases h
  | a :: ls, c3, l, he, h => by
    have e : forF (.v 3) (fun ρ => evSs rP call FU bd7 ρ) ((a :: ls).map eL) [some (.tuple xs, .fz), cI t, cI w, c3] = (evSs rP call FU bd7 [some (.tuple xs, .fz), cI t, cI w, some (eL a, .fz)]).bind fun
      | .nx ρ2 => forF (.v 3) (fun ρ => evSs rP call FU bd7 ρ) (ls.map eL) ρ2
      | .ct ρ2 => forF (.v 3) (fun ρ => evSs rP call FU bd7 ρ) (ls.map eL) ρ2
      | .br ρ2 => Fh.R.ok (.nx ρ2)
      | .rt d f ρ2 => Fh.R.ok (.rt d f ρ2) := rfl
    rw [e, it7 call xs t w W a (he a List.mem_cons_self)]
    by_cases c : w ≤ W a
    · rw [if_pos c]
      rw [List.find?_cons_of_pos (by simpa using c)] at h
      cases h
      exact ⟨_, rfl⟩
    · rw [if_neg c, bok]
      rw [List.find?_cons_of_neg (by simpa using c)] at h
      exact lp7 ls _ (fun l hl => he l (List.mem_cons_of_mem _ hl)) h
end
end FhL

set_option maxHeartbeats 4000000
namespace FhL
open PySem PySem.Spec PyProof.Rows L2 Fh
/-! ### comprehensions as maps and filters -/
abbrev tR : Ex := (.toS false .rng (.cons (.fn .len (.cons (.v 0) .nil)) .nil))
theorem itR (n : Nat) (h : n ≤ 10) : items .rng [.int n] = .ok (Fh.upTo 0 n) := by
  have h1 : rangeOk (n : Int) = true := by unfold rangeOk; simp only [Bool.and_eq_true, decide_eq_true_eq]; omega
  have h2 : n ≤ sizeLine := by rw [sizeLine_eq]; omega
  have e : items .rng [.int n] = if rangeOk (n : Int) = true ∧ (n : Int).toNat ≤ sizeLine then .ok (Fh.upTo 0 (n : Int).toNat) else .st := rfl
  rw [e, Int.toNat_natCast, if_pos ⟨h1, h2⟩]
theorem lenT (xs : List PyData) : applyFn .len [.tuple xs] = .ok (.int xs.length) := rfl
theorem leR (n : Nat) (h : n ≤ 10) : (Fh.upTo 0 n).length ≤ sizeLine := by
  rw [sizeLine_eq]
  unfold Fh.upTo
  rw [List.length_map, List.length_range]
  omega
theorem toS_run {refs : Refs} {call : Calls} {l : Bool} {kd : ItK} {src : Exs} {ρ ρ1 : Fh.Env} {xs ds ys : List PV} (h1 : evP refs call src ρ = .ok (xs, ρ1)) (h2 : agains src xs ρ1 = .ok ds) (h3 : items kd ds = .ok ys) (h4 : ys.length ≤ sizeLine) : evE refs call (.toS l kd src) ρ = .ok (if l = true then .list ys else .tuple ys, l, ρ1) := by
  have e : evE refs call (.toS l kd src) ρ = ((evP refs call src ρ).bind fun (xs, ρ1) => (agains src xs ρ1).bind fun ds => (items kd ds).bind fun ys => if ys.length ≤ sizeLine then .ok (if l = true then .list ys else .tuple ys, l, ρ1) else .st) := rfl
  rw [e, h1, bok]
  show (agains src xs ρ1).bind _ = _
  rw [h2, bok, h3, bok]
  exact if_pos h4
theorem toR (call : Calls) (xs : List PyData) (h : xs.length ≤ 10) (c1 c2 c3 : Cell) : evE rP call tR [some (.tuple xs, .fz), c1, c2, c3] = .ok (.tuple (Fh.upTo 0 xs.length), false, [some (.tuple xs, .fz), c1, c2, c3]) :=
  toS_run (xs := [.int xs.length]) (ds := [.int xs.length]) (ρ1 := [some (.tuple xs, .fz), c1, c2, c3]) rfl rfl (itR xs.length h) (leR xs.length h)
end FhL

set_option maxHeartbeats 4000000
namespace FhL
open PySem PySem.Spec PyProof.Rows L2 Fh
/-! ### comprehensions as maps and filters -/
section
variable (call : Calls) (xs : List PyData) (t w : Int) (W : List Int → Int)
abbrev cWx (x : Ex) : Ex := (.call 5 (.cons (.v 0) (.cons (.v 1) (.cons x .nil))))
abbrev cW : Ex := cWx tR
theorem pv (i : Nat) (ρ : Fh.Env) (r : Fh.R (PV × Bool × Fh.Env)) : peek (.v i) ρ r = (getv ρ i).bind fun d => .ok (d, ρ) := rfl
theorem av (i : Nat) (d : PV) (ρ : Fh.Env) : Fh.again (.v i) d ρ = getv ρ i := rfl
theorem cw_any {x : Ex} {A : Int} {ys : List PyData} (hp : ∀ ρ r, peek x ρ r = r.bind fun p => .ok (p.1, p.2.2)) (ha : ∀ d ρ, Fh.again x d ρ = .ok d) (hR : evE rP call x [some (.tuple xs, .fz), cI t, cI w, none] = .ok (.tuple ys, false, [some (.tuple xs, .fz), cI t, cI w, none])) (e5 : call 5 [.tuple xs, .int t, .tuple ys] = .ok (.int A, false, none)) :
    evE rP call (cWx x) [some (.tuple xs, .fz), cI t, cI w, none] = .ok (.int A, false, [some (.tuple xs, .fz), cI t, cI w, none]) := by
  simp [evE, evP, hp, ha, hR, pv, av, agains, getv, callE, r5, bok, e5, flat]
theorem cw_ok (h : xs.length ≤ 10) {A : Int} (e5 : call 5 [.tuple xs, .int t, .tuple (Fh.upTo 0 xs.length)] = .ok (.int A, false, none)) : evE rP call cW [some (.tuple xs, .fz), cI t, cI w, none] = .ok (.int A, false, [some (.tuple xs, .fz), cI t, cI w, none]) :=
  cw_any call xs t w (fun _ _ => rfl) (fun _ _ => rfl) (toR call xs h (cI t) (cI w) none) e5
abbrev B7' (x : Ex) (z : Sm) : Sms := (.cons (.ex (.call 4 (.cons (.v 0) (.cons (.v 1) (.cons (.v 2) .nil))))) (.cons (.ite (.cmp .lt x (.v 2)) (.cons (.ret (.tup (.cons (.g "DRY" (.str "dry")) (.cons x .nil)))) .nil) .nil) (.cons z (.cons (.ret (.c (.none))) .nil))))
theorem dry_any {x : Ex} {z : Sm} {A : Int} (hp : ∀ ρ r, peek x ρ r = r.bind fun p => .ok (p.1, p.2.2)) (ha : ∀ d ρ, Fh.again x d ρ = .ok d) (e4 : call 4 [.tuple xs, .int t, .int w] = .ok (.none, false, none)) (hc : evE rP call x [some (.tuple xs, .fz), cI t, cI w, none] = .ok (.int A, false, [some (.tuple xs, .fz), cI t, cI w, none])) (hA : A < w) :
    evSs rP call FU (B7' x z) [some (.tuple xs, .fz), cI t, cI w, none] = .ok (.rt (.tuple [.str "dry", .int A]) false [some (.tuple xs, .fz), cI t, cI w, none]) := by
  have hcm : ∀ (a b : Ex) (ρ : Fh.Env) r, peek (.cmp .lt a b) ρ r = r.bind fun p => .ok (p.1, p.2.2) := fun _ _ _ _ => rfl
  have hrt : ∀ (es : Exs) (ρ : Fh.Env), evR rP call (.tup es) ρ = evE rP call (.tup es) ρ := fun _ _ => rfl
  simp [evSs, evS, evT, evE, evL, evP, hp, ha, hc, pv, av, hcm, hrt, agains, getv, callE, r4, bok, e4, ltI, hA, truth, flat, sizeLine_eq]
theorem lot_any {x : Ex} {z : Sm} {A : Int} {v : PyData} {ρ' : Fh.Env} (hp : ∀ ρ r, peek x ρ r = r.bind fun p => .ok (p.1, p.2.2)) (ha : ∀ d ρ, Fh.again x d ρ = .ok d) (e4 : call 4 [.tuple xs, .int t, .int w] = .ok (.none, false, none)) (hc : evE rP call x [some (.tuple xs, .fz), cI t, cI w, none] = .ok (.int A, false, [some (.tuple xs, .fz), cI t, cI w, none])) (hA : ¬ A < w)
    (hz : evS rP call FU z [some (.tuple xs, .fz), cI t, cI w, none] = .ok (.rt v false ρ')) : evSs rP call FU (B7' x z) [some (.tuple xs, .fz), cI t, cI w, none] = .ok (.rt v false ρ') := by
  have hcm : ∀ (a b : Ex) (ρ : Fh.Env) r, peek (.cmp .lt a b) ρ r = r.bind fun p => .ok (p.1, p.2.2) := fun _ _ _ _ => rfl
  simp [evSs, evS, evT, evE, evL, evP, hp, ha, hc, hz, pv, av, hcm, agains, getv, callE, r4, bok, e4, ltI, hA, truth, flat]
abbrev sF7 : Sm := (.for_ (.v 3) .seq (.cons (.call 6 (.cons (.fn .len (.cons (.v 0) .nil)) .nil)) .nil) bd7)
theorem stops_dry (h : xs.length ≤ 10) {A : Int} (e4 : call 4 [.tuple xs, .int t, .int w] = .ok (.none, false, none)) (e5 : call 5 [.tuple xs, .int t, .tuple (Fh.upTo 0 xs.length)] = .ok (.int A, false, none)) (hA : A < w) :
    runDef P FU call D7 [.tuple xs, .int t, .int w] = .ok (.tuple [.str "dry", .int A], false, none) := by
  have e : runDef P FU call D7 [.tuple xs, .int t, .int w] = (evSs rP call FU (B7' cW sF7) [some (.tuple xs, .fz), cI t, cI w, none]).bind (outOf none) := rfl
  rw [e, dry_any call xs t w (fun _ _ => rfl) (fun _ _ => rfl) e4 (cw_ok call xs t w h e5) hA]
  rfl
theorem stops_lot (h : xs.length ≤ 10) {A : Int} {ls : List (List Int)} {l : List Int} (e4 : call 4 [.tuple xs, .int t, .int w] = .ok (.none, false, none)) (e5 : call 5 [.tuple xs, .int t, .tuple (Fh.upTo 0 xs.length)] = .ok (.int A, false, none)) (hA : ¬ A < w)
    (e6 : call 6 [.int xs.length] = .ok (.list (ls.map eL), true, none)) (he : ∀ l ∈ ls, call 5 [.tuple xs, .int t, eL l] = .ok (.int (W l), false, none)) (hf : ls.find? (fun l => decide (w ≤ W l)) = some l) :
    runDef P FU call D7 [.tuple xs, .int t, .int w] = .ok (.tuple [.str "stops", eL l], false, none) := by
  obtain ⟨ρ', hfor⟩ := lp7 call xs t w W ls none he hf
  have hL : evL rP call (.cons (.call 6 (.cons (.fn .len (.cons (.v 0) .nil)) .nil)) .nil) [some (.tuple xs, .fz), cI t, cI w, none] = .ok ([.list (ls.map eL)], [some (.tuple xs, .fz), cI t, cI w, none]) := by
    simp [evL, evE, evP, peek, Fh.again, agains, getv, callE, r6, bok, e6, lenT, flat, frzs]
  have hz : evS rP call FU sF7 [some (.tuple xs, .fz), cI t, cI w, none] = .ok (.rt (.tuple [.str "stops", eL l]) false ρ') := by
    have hS : evS rP call FU sF7 [some (.tuple xs, .fz), cI t, cI w, none] = ((evL rP call (.cons (.call 6 (.cons (.fn .len (.cons (.v 0) .nil)) .nil)) .nil) [some (.tuple xs, .fz), cI t, cI w, none]).bind fun (ds, ρ1) => (items .seq ds).bind fun xs => forF (.v 3) (fun ρ => evSs rP call FU bd7 ρ) xs ρ1) := rfl
    rw [hS, hL, bok]
    exact hfor
  have e : runDef P FU call D7 [.tuple xs, .int t, .int w] = (evSs rP call FU (B7' cW sF7) [some (.tuple xs, .fz), cI t, cI w, none]).bind (outOf none) := rfl
  rw [e, lot_any call xs t w (fun _ _ => rfl) (fun _ _ => rfl) e4 (cw_ok call xs t w h e5) hA hz]
  rfl
end
end FhL

set_option maxHeartbeats 4000000
namespace FhL
open PySem PySem.Spec PyProof.Rows L2 Fh
def H5 (cs : List PyData) (p q s t : Int) : PyData := .list [.list cs, .int p, .int q, .int s, .int t]
structure WF (h : PyData) : Prop where
  ex : ∃ (cs : List Int) (p q s t : Int), h = H5 (cs.map .int) p q s t ∧ (∀ c ∈ cs, 0 ≤ c) ∧ 0 ≤ p ∧ 0 ≤ q
abbrev sA : Sm := .ite (.bop true (.cmp .eq (.idx (.v 0) (.c (.int (2)))) (.c (.int (0)))) (.cmp .lt (.idx (.v 0) (.c (.int (1)))) (.fn .len (.cons (.idx (.v 0) (.c (.int (0)))) .nil)))) (.cons (.asg (.v 3) (.idx (.idx (.v 0) (.c (.int (0)))) (.idx (.v 0) (.c (.int (1)))))) (.cons (.seti 0 (.c (.int (1))) (.bin .add (.idx (.v 0) (.c (.int (1)))) (.c (.int (1))))) (.cons (.seti 0 (.c (.int (3))) (.bin .mod (.fn .int (.cons (.bin .add (.bin .add (.bin .mul (.idx (.v 0) (.c (.int (3)))) (.c (.int (48271)))) (.v 3)) (.c (.int (31)))) .nil)) (.c (.int (2147483647))))) (.cons (.ite (.cmp .ge (.v 3) (.bin .pow (.c (.int (10))) (.c (.int (18))))) (.cons (.seti 0 (.c (.int (2))) (.v 3)) .nil) .nil) .nil)))) .nil
abbrev hC (h : PyData) : Cell := some (h, .rf)
theorem g0 (cs : List PyData) (p q s t : Int) : getItem (H5 cs p q s t) (.int 0) = .ok (.list cs) := rfl
theorem g1 (cs : List PyData) (p q s t : Int) : getItem (H5 cs p q s t) (.int 1) = .ok (.int p) := rfl
theorem g2 (cs : List PyData) (p q s t : Int) : getItem (H5 cs p q s t) (.int 2) = .ok (.int q) := rfl
theorem g3' (cs : List PyData) (p q s t : Int) : getItem (H5 cs p q s t) (.int 3) = .ok (.int s) := rfl
theorem g4 (cs : List PyData) (p q s t : Int) : getItem (H5 cs p q s t) (.int 4) = .ok (.int t) := rfl
theorem u1 (cs : List PyData) (p q s t x : Int) : setI (H5 cs p q s t) (.int 1) (.int x) = .ok (H5 cs x q s t) := rfl
theorem u2 (cs : List PyData) (p q s t x : Int) : setI (H5 cs p q s t) (.int 2) (.int x) = .ok (H5 cs p x s t) := rfl
theorem u3 (cs : List PyData) (p q s t x : Int) : setI (H5 cs p q s t) (.int 3) (.int x) = .ok (H5 cs p q x t) := rfl
theorem u4 (cs : List PyData) (p q s t x : Int) : setI (H5 cs p q s t) (.int 4) (.int x) = .ok (H5 cs p q s x) := rfl
theorem eq0 (q : Int) : cmpv .eq (.int q) (.int 0) = .ok (q == 0) := by
  have h : cmpv .eq (.int q) (.int 0) = .ok (PyData.eqv (.int q) (.int 0)) := rfl
  rw [h]
  simp [PyData.eqv]
theorem mulS (a : Int) {b : Int} (h : small b = true) : arith .mul (.int a) (.int b) = .ok (.int (a * b)) := by
  have : mulOk a b = true := by unfold mulOk; rw [h]; simp
  show (if mulOk a b = true then Fh.R.ok (PyData.int (a * b)) else .st) = _
  rw [if_pos this]
theorem modI (a : Int) {b : Int} (h : b ≠ 0) : arith .mod (.int a) (.int b) = .ok (.int (a.fmod b)) := by
  show (if b ≠ 0 then Fh.R.ok (PyData.int (a.fmod b)) else .st) = _
  rw [if_pos h]
theorem divI (a : Int) {b : Int} (h : b ≠ 0 ∧ b.natAbs.log2 < 9000) : arith .fdiv (.int a) (.int b) = .ok (.int (a.fdiv b)) := by
  show (if b ≠ 0 ∧ b.natAbs.log2 < 9000 then Fh.R.ok (PyData.int (a.fdiv b)) else .st) = _
  rw [if_pos h]
theorem intI (a : Int) : applyFn .int [.int a] = .ok (.int a) := rfl
theorem getL (xs : List Int) (p : Int) (h0 : 0 ≤ p) (h : p < xs.length) : ∃ c ∈ xs, getItem (.list (xs.map .int)) (.int p) = .ok (.int c) := by
  have hl : p.toNat < xs.length := by omega
  refine ⟨xs[p.toNat], List.getElem_mem hl, ?_⟩
  show R.of (L2.atI (xs.map PyData.int) p) = _
  have : L2.atI (xs.map PyData.int) p = some (.int xs[p.toNat]) := by
    unfold L2.atI ixN
    rw [List.length_map, if_pos h0, if_pos h]
    simp [hl]
  rw [this]; rfl
theorem sm1 : small 48271 = true := by decide +kernel
theorem sm2 : small 40692 = true := by decide +kernel
theorem sm3 : small 6151 = true := by decide +kernel
theorem powT : arith .pow (.int 10) (.int 18) = .ok (.int 1000000000000000000) := by
  show (if (0 : Int) ≤ 18 ∧ (18 : Int) ≤ 1000000 ∧ (10 : Int).natAbs < 2 ^ 64 then Fh.R.ok (PyData.int (10 ^ (18 : Int).toNat)) else .st) = _
  rw [if_pos (by decide)]
  rfl
theorem stA (refs : Refs) (call : Calls) (fuel : Nat) (cs : List Int) (p q s t m : Int) (hcs : ∀ c ∈ cs, 0 ≤ c) (hp : 0 ≤ p) (hq : 0 ≤ q) :
    ∃ p' q' s' c3, evS refs call fuel sA [hC (H5 (cs.map .int) p q s t), cI m, none, none, none] = .ok (.nx [hC (H5 (cs.map .int) p' q' s' t), cI m, none, c3, none]) ∧ 0 ≤ p' ∧ 0 ≤ q' := by
  by_cases h1 : q = 0
  · by_cases h2 : p < cs.length
    · obtain ⟨c, hc, hg⟩ := getL cs p hp h2
      have c0 := hcs c hc
      by_cases h3 : (1000000000000000000 : Int) ≤ c
      · refine ⟨p + 1, c, (s * 48271 + c + 31).fmod 2147483647, cI c, ?_, by omega, c0⟩
        simp [evSs, evS, evT, evF, evE, evP, agains, peek, Fh.again, getv, bok, frz, g0, g1, g2, g3', u1, u2, u3, eq0, h1, truth, lenI, ltI, geI, h2, isM, hg, asgT, fgOf, putV, addI, mulS _ sm1, intI, modI, powT, h3]
      · refine ⟨p + 1, 0, (s * 48271 + c + 31).fmod 2147483647, cI c, ?_, by omega, by omega⟩
        simp [evSs, evS, evT, evF, evE, evP, agains, peek, Fh.again, getv, bok, frz, g0, g1, g2, g3', u1, u2, u3, eq0, h1, truth, lenI, ltI, geI, h2, isM, hg, asgT, fgOf, putV, addI, mulS _ sm1, intI, modI, powT, h3]
    · refine ⟨p, q, s, none, ?_, hp, hq⟩
      simp [evSs, evS, evT, evF, evE, evP, agains, peek, Fh.again, getv, bok, frz, g0, g1, g2, eq0, h1, truth, lenI, ltI, h2, isM]
  · refine ⟨p, q, s, none, ?_, hp, hq⟩
    simp [evSs, evS, evT, evF, evE, evP, agains, peek, Fh.again, getv, bok, frz, g0, g1, g2, eq0, h1, truth, flat]
abbrev ssB : Sms := (.cons (.ite (.cmp .gt (.idx (.v 0) (.c (.int (2)))) (.c (.int (0)))) (.cons (.asg (.v 4) (.bin .mod (.fn .int (.cons (.idx (.v 0) (.c (.int (2)))) .nil)) (.v 1))) (.cons (.seti 0 (.c (.int (2))) (.bin .fdiv (.idx (.v 0) (.c (.int (2)))) (.v 1))) (.cons (.ret (.v 4)) .nil))) .nil) (.cons (.seti 0 (.c (.int (4))) (.bin .add (.idx (.v 0) (.c (.int (4)))) (.c (.int (1))))) (.cons (.asg (.v 2) (.bin .mod (.fn .int (.cons (.bin .mul (.fn .int (.cons (.bin .add (.idx (.v 0) (.c (.int (3)))) (.bin .mul (.c (.int (6151))) (.idx (.v 0) (.c (.int (4)))))) .nil)) (.c (.int (40692)))) .nil)) (.c (.int (2147483399))))) (.cons (.asg (.v 2) (.bin .mod (.fn .int (.cons (.bin .mul (.v 2) (.bin .add (.bin .fdiv (.v 2) (.c (.int (1223)))) (.c (.int (52027))))) .nil)) (.c (.int (2147483629))))) (.cons (.asg (.v 2) (.bin .mod (.fn .int (.cons (.bin .mul (.v 2) (.bin .add (.bin .fdiv (.v 2) (.c (.int (2671)))) (.c (.int (69621))))) .nil)) (.c (.int (2147483647))))) (.cons (.ret (.bin .mod (.fn .int (.cons (.bin .fdiv (.v 2) (.c (.int (32)))) .nil)) (.v 1))) .nil))))))
theorem mulL (a b : Int) (h : mulOk a b = true) : arith .mul (.int a) (.int b) = .ok (.int (a * b)) := by
  show (if mulOk a b = true then Fh.R.ok (PyData.int (a * b)) else .st) = _
  rw [if_pos h]
theorem small_of {a : Int} (h0 : 0 ≤ a) (h : a < 2147483647) : small a = true := by
  unfold small
  simp only [Bool.and_eq_true, decide_eq_true_eq]
  constructor <;> omega
theorem mulS1 {a : Int} (b : Int) (h : small a = true) : arith .mul (.int a) (.int b) = .ok (.int (a * b)) := mulL a b (by unfold mulOk; rw [h]; simp)
theorem ssB_ok (refs : Refs) (call : Calls) (fuel : Nat) (cs : List PyData) (p q s t m : Int) (c3 : Cell) (hp : 0 ≤ p) (hq : 0 ≤ q) (hm : 0 < m) (hm2 : m.natAbs.log2 < 9000) :
    ∃ d q' t' ρ', evSs refs call fuel ssB [hC (H5 cs p q s t), cI m, none, c3, none] = .ok (.rt (.int d) false ρ') ∧ ρ'[0]? = some (hC (H5 cs p q' s t')) ∧ 0 ≤ d ∧ d < m ∧ 0 ≤ q' := by
  have m0 : m ≠ 0 := by omega
  by_cases h1 : 0 < q
  · refine ⟨q.fmod m, q.fdiv m, t, [hC (H5 cs p (q.fdiv m) s t), cI m, none, c3, cI (q.fmod m)], ?_, rfl, Int.fmod_nonneg_of_pos q hm, Int.fmod_lt_of_pos q hm, Int.fdiv_nonneg hq (by omega)⟩
    simp [evSs, evS, evT, evF, evE, evP, evR, agains, peek, Fh.again, getv, bok, frz, g0, g1, g2, g3', u1, u2, u3, truth, gtI, h1, isM, asgT, fgOf, putV, intI, modI _ m0, divI _ ⟨m0, hm2⟩]
  · generalize hn1 : ((s + 6151 * (t + 1)) * 40692).fmod 2147483399 = n1
    have a1 : 0 ≤ n1 := by rw [← hn1]; exact Int.fmod_nonneg_of_pos _ (by omega)
    have b1 : n1 < 2147483399 := by rw [← hn1]; exact Int.fmod_lt_of_pos _ (by omega)
    generalize hn2 : (n1 * (n1.fdiv 1223 + 52027)).fmod 2147483629 = n2
    have a2 : 0 ≤ n2 := by rw [← hn2]; exact Int.fmod_nonneg_of_pos _ (by omega)
    have b2 : n2 < 2147483629 := by rw [← hn2]; exact Int.fmod_lt_of_pos _ (by omega)
    generalize hn3 : (n2 * (n2.fdiv 2671 + 69621)).fmod 2147483647 = n3
    have s1 : small n1 = true := small_of a1 (by omega)
    have s2 : small n2 = true := small_of a2 (by omega)
    have d1 : ∀ a : Int, arith .fdiv (.int a) (.int 1223) = .ok (.int (a.fdiv 1223)) := fun a => divI a (by decide)
    have d2 : ∀ a : Int, arith .fdiv (.int a) (.int 2671) = .ok (.int (a.fdiv 2671)) := fun a => divI a (by decide)
    have d3 : ∀ a : Int, arith .fdiv (.int a) (.int 32) = .ok (.int (a.fdiv 32)) := fun a => divI a (by decide)
    refine ⟨(n3.fdiv 32).fmod m, q, t + 1, [hC (H5 cs p q s (t + 1)), cI m, cI n3, c3, none], ?_, rfl, Int.fmod_nonneg_of_pos _ hm, Int.fmod_lt_of_pos _ hm, hq⟩
    simp [evSs, evS, evT, evF, evE, evP, evR, agains, peek, Fh.again, getv, bok, frz, g0, g1, g2, g3', g4, u1, u2, u3, u4, truth, gtI, h1, isM, asgT, fgOf, putV, intI, addI, modI _ m0, mulS _ sm2, mulS1 _ sm3, modI, hn1, d1, mulS1 _ s1, hn2, d2, mulS1 _ s2, hn3, d3]
theorem draw_ok (n : Nat) {h : PyData} (w : WF h) {m : Int} (hm : 0 < m) (hm2 : m.natAbs.log2 < 9000) : ∃ d h', cM (n + 1) 9 [h, .int m] = .ok (.int d, false, some h') ∧ 0 ≤ d ∧ d < m ∧ WF h' := by
  obtain ⟨cs, p, q, s, t, rfl, hcs, hp, hq⟩ := w.ex
  obtain ⟨p', q', s', c3, e1, hp', hq'⟩ := stA (refsOf P) (cM n) FU cs p q s t m hcs hp hq
  obtain ⟨d, q2, t2, ρ', e2, e3, hd1, hd2, hq2⟩ := ssB_ok (refsOf P) (cM n) FU (cs.map .int) p' q' s' t m c3 hp' hq' hm hm2
  refine ⟨d, H5 (cs.map .int) p' q2 s' t2, ?_, hd1, hd2, ⟨cs, p', q2, s', t2, rfl, hcs, hp', hq2⟩⟩
  have e : cM (n + 1) 9 [H5 (cs.map .int) p q s t, .int m] = ((evS (refsOf P) (cM n) FU sA [hC (H5 (cs.map .int) p q s t), cI m, none, none, none]).bind fun
    | .nx ρ1 => evSs (refsOf P) (cM n) FU ssB ρ1
    | r => Fh.R.ok r).bind (outOf (some 0)) := rfl
  rw [e, e1, bok]
  show (evSs (refsOf P) (cM n) FU ssB _).bind (outOf (some 0)) = _
  rw [e2, bok]
  show (refOut (some 0) ρ').bind (fun o => Fh.R.ok (PyData.int d, false, o)) = _
  have : refOut (some 0) ρ' = .ok (some (H5 (cs.map .int) p' q2 s' t2)) := by
    unfold refOut
    dsimp only
    rw [e3]
  rw [this]; rfl
theorem cut_map (ns : List Int) (lo hi : Option Int) : ∃ ks : List Int, cut (ns.map PyData.int) lo hi = ks.map PyData.int ∧ ks.length ≤ ns.length := by
  refine ⟨(ns.drop (HT.sIx (ns.map PyData.int).length 0 lo)).take (HT.sIx (ns.map PyData.int).length (ns.map PyData.int).length hi - HT.sIx (ns.map PyData.int).length 0 lo), ?_, ?_⟩
  · unfold cut
    rw [List.map_take, List.map_drop]
  · rw [List.length_take, List.length_drop]
    omega
abbrev eH : Ex := .fn .abs (.cons (.fn .int (.cons (.v 2) .nil)) .nil)
abbrev stH (refs : Refs) (call : Calls) (acc : List PV × Fh.Env) (x : PV) : Fh.R (List PV × Fh.Env) := stepC refs call [("cell", 2)] (.v 2) .nil eH acc x
theorem fold_h (refs : Refs) (call : Calls) (S : Cell) : ∀ (ns : List Int) (acc : List PV), (ns.map PyData.int).foldlM (stH refs call) (acc, [S, none, none]) = .ok (acc ++ (ns.map fun c => if c < 0 then -c else c).map PyData.int, [S, none, none])
  | [], acc => by
    show Fh.R.ok (acc, [S, none, none]) = _
    simp
  | n :: ns, acc => by
    have e : stH refs call (acc, [S, none, none]) (.int n) = .ok (acc ++ [.int (if n < 0 then -n else n)], [S, none, none]) := rfl
    show (stH refs call (acc, [S, none, none]) (.int n)).bind (fun b => (ns.map PyData.int).foldlM (stH refs call) b) = _
    rw [e, bok, fold_h refs call S ns]
    simp
theorem hand_ok (n : Nat) (ns : List Int) (hl : ns.length ≤ 63) : ∃ h, cM (n + 1) 8 [.list (ns.map .int)] = .ok (h, true, none) ∧ WF h := by
  obtain ⟨ks, hk, hkl⟩ := cut_map ns none (some 63)
  generalize hcs : (ks.map fun c => if c < 0 then -c else c) = cs
  have h0 : ∀ c ∈ cs, 0 ≤ c := by
    intro c hc
    rw [← hcs] at hc
    obtain ⟨k, _, rfl⟩ := List.mem_map.mp hc
    split <;> omega
  have hf := fold_h (refsOf P) (cM n) (some (.list (ns.map .int), .fz)) ks []
  rw [hcs, List.nil_append] at hf
  refine ⟨H5 (cs.map .int) 0 0 (97 + 5 * cs.length) 0, ?_, ⟨cs, 0, 0, _, 0, rfl, h0, by omega, by omega⟩⟩
  have h24 := sizeLine_eq
  have e1 : evE (refsOf P) (cM n) (.comp [("cell", 2)] (.v 2) .seq (.cons (.slc (.v 0) .nil (.cons (.c (.int (63))) .nil)) .nil) .nil eH) [some (.list (ns.map .int), .fz), none, none] = .ok (.list (cs.map .int), true, [some (.list (ns.map .int), .fz), none, none]) := by
    have e0 : evE (refsOf P) (cM n) (.comp [("cell", 2)] (.v 2) .seq (.cons (.slc (.v 0) .nil (.cons (.c (.int (63))) .nil)) .nil) .nil eH) [some (.list (ns.map .int), .fz), none, none] =
        (if noneOwned [some (.list (ns.map .int), .fz), none, none] [2] = true ∧ (cut (ns.map .int) none (some 63)).length ≤ sizeLine then
          ((cut (ns.map .int) none (some 63)).foldlM (stH (refsOf P) (cM n)) ([], [some (.list (ns.map .int), .fz), none, none])).bind fun r => Fh.R.ok (PyData.list r.1, true, unwipe [some (.list (ns.map .int), .fz), none, none] r.2 [2]) else .st) := rfl
    rw [e0, hk, if_pos ⟨rfl, by rw [List.length_map]; omega⟩, hf, bok]
    rfl
  have e2 : cM (n + 1) 8 [.list (ns.map .int)] = (((evE (refsOf P) (cM n) (.comp [("cell", 2)] (.v 2) .seq (.cons (.slc (.v 0) .nil (.cons (.c (.int (63))) .nil)) .nil) .nil eH) [some (.list (ns.map .int), .fz), none, none]).bind fun (d, f, ρ1) => (asgT (.v 1) d (fgOf f) ρ1).bind fun ρ2 => Fh.R.ok (Fl.nx ρ2)).bind fun
    | .nx ρ1 => evSs (refsOf P) (cM n) FU (.cons (.ret (.lst (.cons (.v 1) (.cons (.c (.int (0))) (.cons (.c (.int (0))) (.cons (.bin .add (.c (.int (97))) (.bin .mul (.c (.int (5))) (.fn .len (.cons (.v 1) .nil)))) (.cons (.c (.int (0))) .nil))))))) .nil) ρ1
    | r => Fh.R.ok r).bind (outOf none) := rfl
  rw [e2, e1, bok]
  have sm5 : small 5 = true := by decide +kernel
  simp [evSs, evS, evR, evE, evL, evP, agains, peek, Fh.again, getv, bok, frz, lenI, mulS1 _ sm5, addI, asgT, fgOf, isM, outOf, refOut, H5, sizeLine_eq]
  done
theorem r8 : refsOf P 8 = none := rfl
theorem r9 : refsOf P 9 = some 0 := rfl
theorem r10 : refsOf P 10 = some 0 := rfl
theorem r11 : refsOf P 11 = none := rfl
theorem some_run (call : Calls) {h h' w0 w1 w2 z : PyData} {d : Int} (e : call 9 [h, .int 3] = .ok (.int d, false, some h')) (ez : getItem (.list [w0, w1, w2]) (.int d) = .ok z) : runDef P FU call D10 [h, .list [w0, w1, w2]] = .ok (z, false, some h') := by
  simp [runDef, D10, B10, startE, evSs, evS, evR, evE, evP, peek, Fh.again, agains, getv, callE, r9, Fh.nameAt, timesIn, lenI, bok, e, frzsX, ez, outOf, refOut]
theorem some_ok (n : Nat) {h w0 w1 w2 : PyData} (w : WF h) : ∃ z h', cM (n + 2) 10 [h, .list [w0, w1, w2]] = .ok (z, false, some h') ∧ (z = w0 ∨ z = w1 ∨ z = w2) ∧ WF h' := by
  obtain ⟨d, h', e, h0, h1, w'⟩ := draw_ok n w (m := 3) (by decide) (by decide +kernel)
  have hd : d = 0 ∨ d = 1 ∨ d = 2 := by omega
  have q : ∀ z, getItem (.list [w0, w1, w2]) (.int d) = .ok z → cM (n + 2) 10 [h, .list [w0, w1, w2]] = .ok (z, false, some h') := fun z ez => some_run (cM (n + 1)) e ez
  rcases hd with rfl | rfl | rfl
  · exact ⟨w0, h', q _ rfl, .inl rfl, w'⟩
  · exact ⟨w1, h', q _ rfl, .inr (.inl rfl), w'⟩
  · exact ⟨w2, h', q _ rfl, .inr (.inr rfl), w'⟩
end FhL

set_option maxHeartbeats 1000000
namespace FhL
open PySem PySem.Spec PyProof.Rows L2 Fh
abbrev oC (h : PyData) : Cell := some (h, .ow)
abbrev ls0 : Sm := (.par [12, 13] (.cons (.lst .nil) (.cons (.c (.int (0))) .nil)))
abbrev ls1 : Sm := (.asg (.v 3) (.call 10 (.cons (.v 1) (.cons (.lst (.cons (.c (.int (4))) (.cons (.c (.int (9))) (.cons (.c (.int (20))) .nil)))) .nil))))
abbrev ls2 : Sm := (.for_ (.v 4) .rng (.cons (.call 9 (.cons (.v 1) (.cons (.c (.int (7))) .nil))) .nil) (.cons (.asg (.v 13) (.bin .add (.bin .add (.v 13) (.c (.int (1)))) (.call 9 (.cons (.v 1) (.cons (.v 3) .nil))))) (.cons (.ite (.cmp .le (.v 13) (.c (.int (100)))) (.cons (.mut .append 12 (.tup (.cons (.v 13) (.cons (.bin .add (.c (.int (1))) (.call 9 (.cons (.v 1) (.cons (.call 10 (.cons (.v 1) (.cons (.lst (.cons (.c (.int (3))) (.cons (.c (.int (10))) (.cons (.c (.int (30))) .nil)))) .nil))) .nil)))) .nil)))) .nil) .nil) .nil)))
abbrev ls3 : Sm := (.asg (.v 5) (.bin .add (.c (.int (1))) (.call 9 (.cons (.v 1) (.cons (.call 10 (.cons (.v 1) (.cons (.lst (.cons (.c (.int (8))) (.cons (.c (.int (20))) (.cons (.c (.int (60))) .nil)))) .nil))) .nil)))))
abbrev ls4 : Sm := (.asg (.v 6) (.bin .add (.c (.int (1))) (.call 9 (.cons (.v 1) (.cons (.call 10 (.cons (.v 1) (.cons (.lst (.cons (.c (.int (30))) (.cons (.c (.int (90))) (.cons (.c (.int (150))) .nil)))) .nil))) .nil)))))
abbrev ls5 : Sm := (.asg (.v 7) (.lst (.cons (.tup .nil) .nil)))
abbrev ls6 : Sm := (.for_ (.v 8) .rng (.cons (.fn .len (.cons (.v 12) .nil)) .nil) (.cons (.asg (.v 7) (.bin .add (.v 7) (.comp [("lot", 14)] (.v 14) .seq (.cons (.v 7) .nil) .nil (.bin .add (.v 14) (.tup (.cons (.v 8) .nil)))))) .nil))
abbrev ls7 : Sm := (.asg (.v 9) (.comp [("lot", 14)] (.v 14) .seq (.cons (.v 7) .nil) (.cons (.cmp .eq (.call 12 (.cons (.v 12) (.cons (.v 5) (.cons (.v 6) (.cons (.v 14) .nil))))) (.v 6)) .nil) (.tup (.cons (.fn .len (.cons (.v 14) .nil)) (.cons (.v 14) .nil)))))
abbrev ls8 : Sm := (.asg (.v 10) (.toS false .rng (.cons (.fn .len (.cons (.v 12) .nil)) .nil)))
abbrev ls9 : Sm := (.asg (.v 11) (.ite (.cmp .gt (.fn .len (.cons (.v 9) .nil)) (.c (.int (0)))) (.tup (.cons (.c (.str "stops")) (.cons (.idx (.fn .min1 (.cons (.v 9) .nil)) (.c (.int (1)))) .nil))) (.tup (.cons (.c (.str "dry")) (.cons (.call 12 (.cons (.v 12) (.cons (.v 5) (.cons (.v 6) (.cons (.v 10) .nil))))) .nil)))))
abbrev ls10 : Sm := (.ite (.nt (.call 11 (.cons (.call 7 (.cons (.toS false .seq (.cons (.v 12) .nil)) (.cons (.v 5) (.cons (.v 6) .nil)))) (.cons (.v 11) .nil)))) (.cons (.ret (.c (.bool false))) .nil) .nil)
abbrev in0 : Sm := (.asg (.v 13) (.bin .add (.bin .add (.v 13) (.c (.int (1)))) (.call 9 (.cons (.v 1) (.cons (.v 3) .nil)))))
abbrev in1 : Sm := (.ite (.cmp .le (.v 13) (.c (.int (100)))) (.cons (.mut .append 12 (.tup (.cons (.v 13) (.cons (.bin .add (.c (.int (1))) (.call 9 (.cons (.v 1) (.cons (.call 10 (.cons (.v 1) (.cons (.lst (.cons (.c (.int (3))) (.cons (.c (.int (10))) (.cons (.c (.int (30))) .nil)))) .nil))) .nil)))) .nil)))) .nil) .nil)
abbrev dL (ds : List (Int × Int)) : Cell := oC (.list (ds.map dq))
theorem asc_snoc : ∀ {ds : List (Int × Int)} {p0 p u : Int}, Asc p0 ds → (∀ q ∈ ds, q.1 < p) → p0 < p → 0 < u → Asc p0 (ds ++ [(p, u)])
  | [], p0, p, u, _, _, h, hu => ⟨h, hu, trivial⟩
  | (a, b) :: ds, p0, p, u, ⟨a1, a2, a3⟩, hq, h, hu => ⟨a1, a2, asc_snoc a3 (fun q h2 => hq q (List.mem_cons_of_mem _ h2)) (hq (a, b) List.mem_cons_self) hu⟩
structure Gd (ds : List (Int × Int)) (p : Int) : Prop where
  asc : Asc 0 ds
  bd : ∀ q ∈ ds, (1 ≤ q.1 ∧ q.1 ≤ 100) ∧ 1 ≤ q.2 ∧ q.2 ≤ 100
  le : ∀ q ∈ ds, q.1 ≤ p
  p0 : 0 ≤ p
theorem Gd.skip {ds : List (Int × Int)} {p p' : Int} (g : Gd ds p) (h : p ≤ p') : Gd ds p' := ⟨g.asc, g.bd, fun q hq => Int.le_trans (g.le q hq) h, Int.le_trans g.p0 h⟩
theorem Gd.snoc {ds : List (Int × Int)} {p p' u : Int} (g : Gd ds p) (h : p < p') (h2 : p' ≤ 100) (hu : 1 ≤ u ∧ u ≤ 100) : Gd (ds ++ [(p', u)]) p' := by
  have := g.p0
  refine ⟨asc_snoc g.asc (fun q hq => by have := g.le q hq; omega) (by omega) (by omega), fun q hq => ?_, fun q hq => ?_, by omega⟩
  · rcases List.mem_append.mp hq with hq | hq
    · exact g.bd q hq
    · rw [List.mem_singleton.mp hq]
      exact ⟨⟨by show 1 ≤ p'; omega, h2⟩, hu⟩
  · rcases List.mem_append.mp hq with hq | hq
    · have := g.le q hq; omega
    · rw [List.mem_singleton.mp hq]
      exact Int.le_refl _
section
variable (call : Calls) (S c2 c3 c4 c5 c6 c7 c8 c9 c10 c11 c12 c13 : Cell)
theorem s0_ok (H : Cell) : evS rP call FU ls0 [S, H, c2, c3, c4, c5, c6, c7, c8, c9, c10, c11, c12, c13, none] = .ok (.nx [S, H, c2, c3, c4, c5, c6, c7, c8, c9, c10, c11, dL [], cI 0, none]) := by rfl
theorem s1_ok {h h' : PyData} {z : Int} (e : call 10 [h, .list [.int 4, .int 9, .int 20]] = .ok (.int z, false, some h')) : evS rP call FU ls1 [S, oC h, c2, c3, c4, c5, c6, c7, c8, c9, c10, c11, c12, c13, none] = .ok (.nx [S, oC h', c2, cI z, c4, c5, c6, c7, c8, c9, c10, c11, c12, c13, none]) := by
  simp [evSs, evS, evE, evL, evP, peek, Fh.again, agains, getv, callE, r10, Fh.nameAt, timesIn, bok, e, frzsX, asgT, fgOf, isM, sizeLine_eq]
theorem s3_ok {h h1 h2 : PyData} {z d : Int} (e1 : call 10 [h, .list [.int 8, .int 20, .int 60]] = .ok (.int z, false, some h1)) (e2 : call 9 [h1, .int z] = .ok (.int d, false, some h2)) : evS rP call FU ls3 [S, oC h, c2, c3, c4, c5, c6, c7, c8, c9, c10, c11, c12, c13, none] = .ok (.nx [S, oC h2, c2, c3, c4, cI (1 + d), c6, c7, c8, c9, c10, c11, c12, c13, none]) := by
  simp [evSs, evS, evE, evL, evP, peek, Fh.again, agains, getv, callE, r9, r10, Fh.nameAt, timesIn, bok, e1, e2, frzsX, asgT, fgOf, isM, addI, sizeLine_eq]
theorem s4_ok {h h1 h2 : PyData} {z d : Int} (e1 : call 10 [h, .list [.int 30, .int 90, .int 150]] = .ok (.int z, false, some h1)) (e2 : call 9 [h1, .int z] = .ok (.int d, false, some h2)) : evS rP call FU ls4 [S, oC h, c2, c3, c4, c5, c6, c7, c8, c9, c10, c11, c12, c13, none] = .ok (.nx [S, oC h2, c2, c3, c4, c5, cI (1 + d), c7, c8, c9, c10, c11, c12, c13, none]) := by
  simp [evSs, evS, evE, evL, evP, peek, Fh.again, agains, getv, callE, r9, r10, Fh.nameAt, timesIn, bok, e1, e2, frzsX, asgT, fgOf, isM, addI, sizeLine_eq]
theorem i0_ok {h h' : PyData} {p m d : Int} (e : call 9 [h, .int m] = .ok (.int d, false, some h')) : evS rP call FU in0 [S, oC h, c2, cI m, c4, c5, c6, c7, c8, c9, c10, c11, c12, cI p, none] = .ok (.nx [S, oC h', c2, cI m, c4, c5, c6, c7, c8, c9, c10, c11, c12, cI (p + 1 + d), none]) := by
  simp [evSs, evS, evE, evL, evP, peek, Fh.again, agains, getv, callE, r9, Fh.nameAt, timesIn, bok, e, frzsX, frz, asgT, fgOf, isM, addI]
theorem i1_no {h : PyData} {p : Int} (hp : ¬ p ≤ 100) : evS rP call FU in1 [S, oC h, c2, c3, c4, c5, c6, c7, c8, c9, c10, c11, c12, cI p, none] = .ok (.nx [S, oC h, c2, c3, c4, c5, c6, c7, c8, c9, c10, c11, c12, cI p, none]) := by
  simp [evSs, evS, evT, evE, evL, evP, peek, Fh.again, agains, getv, bok, leI, truth, hp]
theorem i1_yes {h h1 h2 : PyData} {p z d : Int} {ds : List (Int × Int)} (hl : ds.length ≤ 6) (hp : p ≤ 100) (e1 : call 10 [h, .list [.int 3, .int 10, .int 30]] = .ok (.int z, false, some h1)) (e2 : call 9 [h1, .int z] = .ok (.int d, false, some h2)) :
    evS rP call FU in1 [S, oC h, c2, c3, c4, c5, c6, c7, c8, c9, c10, c11, dL ds, cI p, none] = .ok (.nx [S, oC h2, c2, c3, c4, c5, c6, c7, c8, c9, c10, c11, dL (ds ++ [(p, 1 + d)]), cI p, none]) := by
  have hz : ds.length < 16777216 := by omega
  simp [evSs, evS, evT, evE, evL, evP, peek, Fh.again, agains, getv, callE, r9, r10, Fh.nameAt, timesIn, bok, leI, truth, hp, e1, e2, frzsX, addI, isM, sizeLine_eq, R.guard, ownL, putV, mutV, frz, hz]
end
end FhL

set_option maxHeartbeats 1000000
namespace FhL
open PySem PySem.Spec PyProof.Rows L2 Fh
theorem seqN {refs : Refs} {call : Calls} {fuel : Nat} {s : Sm} {ss : Sms} {ρ ρ1 : Fh.Env} (e : evS refs call fuel s ρ = .ok (.nx ρ1)) : evSs refs call fuel (.cons s ss) ρ = evSs refs call fuel ss ρ1 := by
  show ((evS refs call fuel s ρ).bind fun
    | .nx ρ1 => evSs refs call fuel ss ρ1
    | r => Fh.R.ok r) = _
  rw [e]; rfl
theorem for_run {refs : Refs} {call : Calls} {fuel : Nat} {t : Tg} {kd : ItK} {src : Exs} {b : Sms} {ρ ρ1 : Fh.Env} {ds xs : List PV} {fl : Fl} (h1 : evL refs call src ρ = .ok (ds, ρ1)) (h2 : items kd ds = .ok xs) (h3 : forF t (fun ρ => evSs refs call fuel b ρ) xs ρ1 = .ok fl) : evS refs call fuel (.for_ t kd src b) ρ = .ok fl := by
  have e : evS refs call fuel (.for_ t kd src b) ρ = ((evL refs call src ρ).bind fun (ds, ρ1) => (items kd ds).bind fun xs => forF t (fun ρ => evSs refs call fuel b ρ) xs ρ1) := rfl
  rw [e, h1, bok]
  show (items kd ds).bind _ = _
  rw [h2, bok, h3]
abbrev bdI : Sms := .cons in0 (.cons in1 .nil)
theorem m_ok {z : PyData} {a b c : Int} (ha : 0 < a ∧ a ≤ 1000) (hb : 0 < b ∧ b ≤ 1000) (hc : 0 < c ∧ c ≤ 1000) (h : z = .int a ∨ z = .int b ∨ z = .int c) : ∃ m : Int, z = .int m ∧ 0 < m ∧ (m = a ∨ m = b ∨ m = c) ∧ m.natAbs.log2 < 9000 := by
  have lg : ∀ m : Int, 0 < m → m ≤ 1000 → m.natAbs.log2 < 9000 := fun m h1 h2 => by
    have := Nat.log2_le_self m.natAbs
    omega
  rcases h with rfl | rfl | rfl
  · exact ⟨a, rfl, ha.1, .inl rfl, lg _ ha.1 ha.2⟩
  · exact ⟨b, rfl, hb.1, .inr (.inl rfl), lg _ hb.1 hb.2⟩
  · exact ⟨c, rfl, hc.1, .inr (.inr rfl), lg _ hc.1 hc.2⟩
theorem inner (S c2 c5 c6 c7 c8 c9 c10 c11 : Cell) {m : Int} (hm : 0 < m) (hm2 : m.natAbs.log2 < 9000) : ∀ (xs : List Int) (c4 : Cell) {h : PyData} {ds : List (Int × Int)} {p : Int}, WF h → Gd ds p → ds.length + xs.length ≤ 6 →
    ∃ h' c4' ds' p', forF (.v 4) (fun ρ => evSs rP (cM 6) FU bdI ρ) (xs.map PyData.int) [S, oC h, c2, cI m, c4, c5, c6, c7, c8, c9, c10, c11, dL ds, cI p, none] = .ok (.nx [S, oC h', c2, cI m, c4', c5, c6, c7, c8, c9, c10, c11, dL ds', cI p', none]) ∧ WF h' ∧ Gd ds' p' ∧ ds'.length ≤ 6
  | [], c4, h, ds, p, w, g, hl => ⟨h, c4, ds, p, rfl, w, g, by simpa using hl⟩
  | x :: xs, c4, h, ds, p, w, g, hl => by
    have hl' : ds.length + xs.length + 1 ≤ 6 := by simpa [Nat.add_assoc] using hl
    obtain ⟨d, h1, e1, d0, d1, w1⟩ := draw_ok 5 w hm hm2
    have e : forF (.v 4) (fun ρ => evSs rP (cM 6) FU bdI ρ) ((x :: xs).map PyData.int) [S, oC h, c2, cI m, c4, c5, c6, c7, c8, c9, c10, c11, dL ds, cI p, none] = (evSs rP (cM 6) FU bdI [S, oC h, c2, cI m, cI x, c5, c6, c7, c8, c9, c10, c11, dL ds, cI p, none]).bind fun
      | .nx ρ2 => forF (.v 4) (fun ρ => evSs rP (cM 6) FU bdI ρ) (xs.map PyData.int) ρ2
      | .ct ρ2 => forF (.v 4) (fun ρ => evSs rP (cM 6) FU bdI ρ) (xs.map PyData.int) ρ2
      | .br ρ2 => Fh.R.ok (.nx ρ2)
      | .rt d f ρ2 => Fh.R.ok (.rt d f ρ2) := rfl
    have b0 := i0_ok (cM 6) S c2 (cI x) c5 c6 c7 c8 c9 c10 c11 (dL ds) (p := p) e1
    rw [e, seqN b0]
    by_cases hp : p + 1 + d ≤ 100
    · obtain ⟨z, h2, e2, hz, w2⟩ := some_ok 4 (w0 := .int 3) (w1 := .int 10) (w2 := .int 30) w1
      obtain ⟨mu, rfl, mu0, hmu, mul⟩ := m_ok (by decide) (by decide) (by decide) hz
      obtain ⟨u, h3, e3, u0, u1, w3⟩ := draw_ok 5 w2 mu0 mul
      have b1 := i1_yes (cM 6) S c2 (cI m) (cI x) c5 c6 c7 c8 c9 c10 c11 (ds := ds) (by omega) hp e2 e3
      rw [seqN b1]
      have g2 : Gd (ds ++ [(p + 1 + d, 1 + u)]) (p + 1 + d) := g.snoc (by omega) hp ⟨by omega, by rcases hmu with r | r | r <;> omega⟩
      exact inner S c2 c5 c6 c7 c8 c9 c10 c11 hm hm2 xs (cI x) w3 g2 (by rw [List.length_append]; show ds.length + 1 + xs.length ≤ 6; omega)
    · have b1 := i1_no (cM 6) S c2 (cI m) (cI x) c5 c6 c7 c8 c9 c10 c11 (dL ds) (h := h1) hp
      rw [seqN b1]
      exact inner S c2 c5 c6 c7 c8 c9 c10 c11 hm hm2 xs (cI x) w1 (g.skip (by omega)) (by omega)
theorem rng7 (k : Nat) (h : k < 7) : items .rng [.int k] = .ok (((List.range k).map fun (i : Nat) => (i : Int)).map PyData.int) := by
  rw [itR k (by omega), upT]
theorem ls2_ok (S c2 c4 c5 c6 c7 c8 c9 c10 c11 : Cell) {m : Int} (hm : 0 < m) (hm2 : m.natAbs.log2 < 9000) {h : PyData} (w : WF h) :
    ∃ h' c4' ds' p', evS rP (cM 6) FU ls2 [S, oC h, c2, cI m, c4, c5, c6, c7, c8, c9, c10, c11, dL [], cI 0, none] = .ok (.nx [S, oC h', c2, cI m, c4', c5, c6, c7, c8, c9, c10, c11, dL ds', cI p', none]) ∧ WF h' ∧ Gd ds' p' ∧ ds'.length ≤ 6 := by
  obtain ⟨d, h1, e1, d0, d1, w1⟩ := draw_ok 5 w (m := 7) (by decide) (by decide +kernel)
  obtain ⟨k, rfl⟩ := Int.eq_ofNat_of_zero_le d0
  obtain ⟨h', c4', ds', p', e2, w2, g2, l2⟩ := inner S c2 c5 c6 c7 c8 c9 c10 c11 hm hm2 ((List.range k).map fun (i : Nat) => (i : Int)) c4 (ds := []) (p := 0) w1 ⟨trivial, by simp, by simp, Int.le_refl 0⟩ (by simp; omega)
  refine ⟨h', c4', ds', p', for_run (ρ1 := [S, oC h1, c2, cI m, c4, c5, c6, c7, c8, c9, c10, c11, dL [], cI 0, none]) (ds := [.int k]) ?_ (rng7 k (by omega)) e2, w2, g2, l2⟩
  generalize cM 6 = call at e1
  simp [evL, evE, evP, peek, Fh.again, agains, getv, callE, r9, Fh.nameAt, timesIn, bok, e1, frzsX]
theorem s56 (S H c2 c3 c4 c5 c6 c7 c8 c9 c10 c11 c13 : Cell) (ds : List (Int × Int)) (hl : ds.length ≤ 6) : ∃ c8', evSs rP (cM 6) FU (.cons ls5 (.cons ls6 .nil)) [S, H, c2, c3, c4, c5, c6, c7, c8, c9, c10, c11, dL ds, c13, none] = .ok (.nx [S, H, c2, c3, c4, c5, c6, oC (.list ((LT ds.length).map eL)), c8', c9, c10, c11, dL ds, c13, none]) := by
  have key : ∀ (xs : List PyData) (n : Nat), xs.length = n → n ≤ 6 → ∃ c8', evSs rP (cM 6) FU (.cons ls5 (.cons ls6 .nil)) [S, H, c2, c3, c4, c5, c6, c7, c8, c9, c10, c11, oC (.list xs), c13, none] = .ok (.nx [S, H, c2, c3, c4, c5, c6, oC (.list ((LT n).map eL)), c8', c9, c10, c11, oC (.list xs), c13, none]) := fun xs n hn hl => by
    match xs, n, hn, hl with
    | [], _, rfl, _ => exact ⟨c8, by kernel_rfl⟩
    | [a], _, rfl, _ => exact ⟨cI 0, by kernel_rfl⟩
    | [a, b], _, rfl, _ => exact ⟨cI 1, by kernel_rfl⟩
    | [a, b, c], _, rfl, _ => exact ⟨cI 2, by kernel_rfl⟩
    | [a, b, c, d], _, rfl, _ => exact ⟨cI 3, by kernel_rfl⟩
    | [a, b, c, d, e], _, rfl, _ => exact ⟨cI 4, by kernel_rfl⟩
    | [a, b, c, d, e, f], _, rfl, _ => exact ⟨cI 5, by kernel_rfl⟩
  exact key (ds.map dq) ds.length (List.length_map _) hl
end FhL

set_option maxHeartbeats 1000000
namespace FhL
open PySem PySem.Spec PyProof.Rows L2 Fh
theorem fold_fl {α : Type} {step : List PV × Fh.Env → PV → Fh.R (List PV × Fh.Env)} {ρ : Fh.Env} {f g : α → PV} {p : α → Bool} : ∀ (ls : List α) (acc : List PV), (∀ l ∈ ls, ∀ acc, step (acc, ρ) (f l) = .ok (if p l = true then acc ++ [g l] else acc, ρ)) → (ls.map f).foldlM step (acc, ρ) = .ok (acc ++ (ls.filter p).map g, ρ)
  | [], acc, _ => by
    show Fh.R.ok (acc, ρ) = _
    simp
  | x :: xs, acc, h => by
    show (step (acc, ρ) (f x)).bind (fun b => (xs.map f).foldlM step b) = _
    rw [h x List.mem_cons_self, bok, fold_fl xs _ fun y hy => h y (List.mem_cons_of_mem _ hy)]
    by_cases c : p x = true
    · rw [if_pos c, List.filter_cons_of_pos c]
      simp
    · rw [if_neg c, List.filter_cons_of_neg c]
/-! ### the good lots -/
abbrev cn7 : Exs := (.cons (.cmp .eq (.call 12 (.cons (.v 12) (.cons (.v 5) (.cons (.v 6) (.cons (.v 14) .nil))))) (.v 6)) .nil)
abbrev el7 : Ex := (.tup (.cons (.fn .len (.cons (.v 14) .nil)) (.cons (.v 14) .nil)))
theorem eqI (a b : Int) : cmpv .eq (.int a) (.int b) = .ok (a == b) := by
  have h : cmpv .eq (.int a) (.int b) = .ok (PyData.eqv (.int a) (.int b)) := rfl
  rw [h]
  simp [PyData.eqv]
theorem step7 (call : Calls) (S H c2 c3 c4 c7 c8 c9 c10 c11 c13 D : Cell) (xs : List PyData) (hD : D = oC (.list xs)) (t w v : Int) (l : List Int) (acc : List PyData) (e : call 12 [.list xs, .int t, .int w, eL l] = .ok (.int v, false, none)) :
    stepC rP call [("lot", 14)] (.v 14) cn7 el7 (acc, [S, H, c2, c3, c4, cI t, cI w, c7, c8, c9, c10, c11, D, c13, none]) (eL l) = .ok (if (v == w) = true then acc ++ [pL l] else acc, [S, H, c2, c3, c4, cI t, cI w, c7, c8, c9, c10, c11, D, c13, none]) := by
  subst hD
  by_cases h : (v == w) = true
  · simp [stepC, asgT, evC, evE, evL, evP, peek, Fh.again, agains, getv, callE, r12, bok, e, flat, eqI, truth, h, Fh.wipe, frz, lenT, sizeLine_eq]
  · simp [stepC, asgT, evC, evE, evL, evP, peek, Fh.again, agains, getv, callE, r12, bok, e, flat, eqI, truth, h, Fh.wipe, frz, lenT, sizeLine_eq]
theorem s7_ok (call : Calls) (S H c2 c3 c4 c8 c9 c10 c11 c13 : Cell) (xs : List PyData) (t w : Int) (V : List Int → Int) (ls : List (List Int)) (hl : ls.length ≤ 100) (he : ∀ l ∈ ls, call 12 [.list xs, .int t, .int w, eL l] = .ok (.int (V l), false, none)) :
    evS rP call FU ls7 [S, H, c2, c3, c4, cI t, cI w, oC (.list (ls.map eL)), c8, c9, c10, c11, oC (.list xs), c13, none] = .ok (.nx [S, H, c2, c3, c4, cI t, cI w, some (.list (ls.map eL), .fz), c8, oC (.list ((ls.filter fun l => V l == w).map pL)), c10, c11, oC (.list xs), c13, none]) := by
  have h1 : evE rP call (.comp [("lot", 14)] (.v 14) .seq (.cons (.v 7) .nil) cn7 el7) [S, H, c2, c3, c4, cI t, cI w, oC (.list (ls.map eL)), c8, c9, c10, c11, oC (.list xs), c13, none] = .ok (.list ((ls.filter fun l => V l == w).map pL), true, [S, H, c2, c3, c4, cI t, cI w, some (.list (ls.map eL), .fz), c8, c9, c10, c11, oC (.list xs), c13, none]) := by
    refine comp_run (ρ1 := [S, H, c2, c3, c4, cI t, cI w, some (.list (ls.map eL), .fz), c8, c9, c10, c11, oC (.list xs), c13, none]) (ρ2 := [S, H, c2, c3, c4, cI t, cI w, some (.list (ls.map eL), .fz), c8, c9, c10, c11, oC (.list xs), c13, none]) (ds := [.list (ls.map eL)]) (xs := ls.map eL) rfl rfl rfl (by rw [List.length_map, sizeLine_eq]; omega) ?_
    have := fold_fl (f := eL) (g := pL) (p := fun l => V l == w) (step := stepC rP call [("lot", 14)] (.v 14) cn7 el7) (ρ := [S, H, c2, c3, c4, cI t, cI w, some (.list (ls.map eL), .fz), c8, c9, c10, c11, oC (.list xs), c13, none]) ls [] fun l hl acc => step7 call S H c2 c3 c4 _ c8 c9 c10 c11 c13 _ xs rfl t w (V l) l acc (he l hl)
    exact this
  have e : evS rP call FU ls7 [S, H, c2, c3, c4, cI t, cI w, oC (.list (ls.map eL)), c8, c9, c10, c11, oC (.list xs), c13, none] = ((evE rP call (.comp [("lot", 14)] (.v 14) .seq (.cons (.v 7) .nil) cn7 el7) [S, H, c2, c3, c4, cI t, cI w, oC (.list (ls.map eL)), c8, c9, c10, c11, oC (.list xs), c13, none]).bind fun (d, f, ρ1) => (asgT (.v 9) d (fgOf f) ρ1).bind fun ρ2 => Fh.R.ok (Fl.nx ρ2)) := rfl
  rw [e, h1]
  rfl
theorem s8_ok (call : Calls) (S H c2 c3 c4 c5 c6 c7 c8 c9 c10 c11 c13 : Cell) (xs : List PyData) (h : xs.length ≤ 10) : evS rP call FU ls8 [S, H, c2, c3, c4, c5, c6, c7, c8, c9, c10, c11, oC (.list xs), c13, none] = .ok (.nx [S, H, c2, c3, c4, c5, c6, c7, c8, c9, some (.tuple (Fh.upTo 0 xs.length), .fz), c11, oC (.list xs), c13, none]) := by
  have h1 : evE rP call (.toS false .rng (.cons (.fn .len (.cons (.v 12) .nil)) .nil)) [S, H, c2, c3, c4, c5, c6, c7, c8, c9, c10, c11, oC (.list xs), c13, none] = .ok (.tuple (Fh.upTo 0 xs.length), false, [S, H, c2, c3, c4, c5, c6, c7, c8, c9, c10, c11, oC (.list xs), c13, none]) :=
    toS_run (xs := [.int xs.length]) (ds := [.int xs.length]) rfl rfl (itR xs.length h) (leR xs.length h)
  have e : evS rP call FU ls8 [S, H, c2, c3, c4, c5, c6, c7, c8, c9, c10, c11, oC (.list xs), c13, none] = ((evE rP call (.toS false .rng (.cons (.fn .len (.cons (.v 12) .nil)) .nil)) [S, H, c2, c3, c4, c5, c6, c7, c8, c9, c10, c11, oC (.list xs), c13, none]).bind fun (d, f, ρ1) => (asgT (.v 10) d (fgOf f) ρ1).bind fun ρ2 => Fh.R.ok (Fl.nx ρ2)) := rfl
  rw [e, h1]
  rfl
theorem s9_dry (call : Calls) (S H c2 c3 c4 c7 c8 c11 c13 : Cell) (xs ys : List PyData) {t w v : Int} (e : call 12 [.list xs, .int t, .int w, .tuple ys] = .ok (.int v, false, none)) : evS rP call FU ls9 [S, H, c2, c3, c4, cI t, cI w, c7, c8, oC (.list []), some (.tuple ys, .fz), c11, oC (.list xs), c13, none] = .ok (.nx [S, H, c2, c3, c4, cI t, cI w, c7, c8, oC (.list []), some (.tuple ys, .fz), some (.tuple [.str "dry", .int v], .fz), oC (.list xs), c13, none]) := by
  simp [evS, evE, evL, evP, peek, Fh.again, agains, getv, callE, r12, bok, e, flat, gtI, truth, lenI, asgT, fgOf, sizeLine_eq]
theorem s9_lot (call : Calls) (S H c2 c3 c4 c5 c6 c7 c8 c10 c11 c12 c13 : Cell) (gs : List PyData) (l : List Int) (hg : 0 < gs.length) (hm : applyFn .min1 [.list gs] = .ok (pL l)) : evS rP call FU ls9 [S, H, c2, c3, c4, c5, c6, c7, c8, oC (.list gs), c10, c11, c12, c13, none] = .ok (.nx [S, H, c2, c3, c4, c5, c6, c7, c8, oC (.list gs), c10, some (.tuple [.str "stops", eL l], .fz), c12, c13, none]) := by
  have h1 : getItem (pL l) (.int 1) = .ok (eL l) := rfl
  have h2 : decide ((0 : Int) < (gs.length : Int)) = true := decide_eq_true (by omega)
  simp [evS, evE, evL, evP, peek, Fh.again, agains, getv, bok, gtI, truth, lenI, hm, h1, h2, hg, asgT, fgOf, sizeLine_eq]
end FhL

set_option maxHeartbeats 1000000
namespace FhL
open PySem PySem.Spec PyProof.Rows L2 Fh
/-! ### the least good lot -/
theorem min_rank {f : List Int → Nat} {lt : PyData → PyData → Bool} : ∀ (xs : List (List Int)) (x : List Int), (∀ a ∈ x :: xs, ∀ b ∈ x :: xs, lt (pL a) (pL b) = decide (f a < f b)) →
    ∃ m, (xs.map pL).foldl (fun b y => if lt y b = true then y else b) (pL x) = pL m ∧ m ∈ x :: xs ∧ ∀ a ∈ x :: xs, f m ≤ f a
  | [], x, _ => ⟨x, rfl, List.mem_cons_self, fun a ha => by rw [List.mem_singleton.mp ha]; exact Nat.le_refl _⟩
  | y :: ys, x, h => by
    have hyx := h y (List.mem_cons_of_mem _ List.mem_cons_self) x List.mem_cons_self
    by_cases c : f y < f x
    · obtain ⟨m, h1, h2, h3⟩ := min_rank (f := f) (lt := lt) ys y fun a ha b hb => h a (List.mem_cons_of_mem _ ha) b (List.mem_cons_of_mem _ hb)
      refine ⟨m, ?_, List.mem_cons_of_mem _ h2, fun a ha => ?_⟩
      · show (ys.map pL).foldl _ (if lt (pL y) (pL x) = true then pL y else pL x) = _
        rw [if_pos (by rw [hyx]; exact decide_eq_true c)]
        exact h1
      · rcases List.mem_cons.mp ha with rfl | ha
        · exact Nat.le_trans (h3 y List.mem_cons_self) (Nat.le_of_lt c)
        · exact h3 a ha
    · obtain ⟨m, h1, h2, h3⟩ := min_rank (f := f) (lt := lt) ys x fun a ha b hb => by
        refine h a ?_ b ?_
        · rcases List.mem_cons.mp ha with rfl | ha
          · exact List.mem_cons_self
          · exact List.mem_cons_of_mem _ (List.mem_cons_of_mem _ ha)
        · rcases List.mem_cons.mp hb with rfl | hb
          · exact List.mem_cons_self
          · exact List.mem_cons_of_mem _ (List.mem_cons_of_mem _ hb)
      refine ⟨m, ?_, ?_, fun a ha => ?_⟩
      · show (ys.map pL).foldl _ (if lt (pL y) (pL x) = true then pL y else pL x) = _
        rw [if_neg (by rw [hyx]; simpa using c)]
        exact h1
      · rcases List.mem_cons.mp h2 with rfl | h2
        · exact List.mem_cons_self
        · exact List.mem_cons_of_mem _ (List.mem_cons_of_mem _ h2)
      · rcases List.mem_cons.mp ha with rfl | ha
        · exact h3 _ List.mem_cons_self
        · rcases List.mem_cons.mp ha with rfl | ha
          · exact Nat.le_trans (h3 x List.mem_cons_self) (Nat.not_lt.mp c)
          · exact h3 a (List.mem_cons_of_mem _ ha)
/-- the first that is good has the least place among the good -/
theorem find_least {p : List Int → Bool} : ∀ {ls : List (List Int)} {l : List Int}, ls.find? p = some l → p l = true ∧ l ∈ ls ∧ ∀ a ∈ ls, p a = true → ls.idxOf l ≤ ls.idxOf a
  | [], _, h => by cases h
  | x :: xs, l, h => by
    by_cases c : p x = true
    · rw [List.find?_cons_of_pos c] at h
      cases h
      exact ⟨c, List.mem_cons_self, fun a _ _ => by rw [List.idxOf_cons_self]; exact Nat.zero_le _⟩
    · rw [List.find?_cons_of_neg c] at h
      obtain ⟨h1, h2, h3⟩ := find_least h
      refine ⟨h1, List.mem_cons_of_mem _ h2, fun a ha hp => ?_⟩
      have nl : x ≠ l := fun e => c (by rw [e]; exact h1)
      have na : x ≠ a := fun e => c (by rw [e]; exact hp)
      have el : (x == l) = false := beq_eq_false_iff_ne.mpr nl
      have ea : (x == a) = false := beq_eq_false_iff_ne.mpr na
      rw [List.idxOf_cons, List.idxOf_cons, el, ea]
      rcases List.mem_cons.mp ha with e | ha
      · exact absurd e.symm na
      · exact Nat.succ_le_succ (h3 a ha hp)
theorem rk_all (n : Nat) (h : n ≤ 6) : rkB n = true ∧ memB n = true ∧ cM 5 6 [.int (n : Int)] = .ok (.list ((SO n).map eL), true, none) := by
  match n, h with
  | 0, _ => exact ⟨rk0, mem0, by0⟩
  | 1, _ => exact ⟨rk1, mem1, by1⟩
  | 2, _ => exact ⟨rk2, mem2, by2⟩
  | 3, _ => exact ⟨rk3, mem3, by3⟩
  | 4, _ => exact ⟨rk4, mem4, by4⟩
  | 5, _ => exact ⟨rk5, mem5, by5⟩
  | 6, _ => exact ⟨rk6, mem6, by6⟩
structure Lots (n : Nat) : Prop where
  rk : ∀ x ∈ SO n, ∀ y ∈ SO n, W.dataLt (pL x) (pL y) = decide ((SO n).idxOf x < (SO n).idxOf y)
  so : ∀ x ∈ LT n, x ∈ SO n
  lt : ∀ x ∈ SO n, x ∈ LT n
  whole : ((List.range n).map fun (i : Nat) => (i : Int)) ∈ SO n
  sh : ∀ l ∈ SO n, SeqAt.shaped (eL l) = true
  cmp : cmpB ((LT n).map pL) = true
theorem lots_of (n : Nat) (h : n ≤ 6) : Lots n := by
  obtain ⟨h1, h2, _⟩ := rk_all n h
  unfold memB at h2
  simp only [Bool.and_eq_true] at h2
  obtain ⟨⟨⟨⟨⟨m1, m2⟩, m3⟩, m4⟩, m5⟩, m6⟩ := h2
  refine ⟨fun x hx y hy => ?_, fun x hx => ?_, fun x hx => ?_, ?_, fun l hl => List.all_eq_true.mp m5 l hl, m6⟩
  · exact eq_of_beq (List.all_eq_true.mp (List.all_eq_true.mp h1 x hx) y hy)
  · simpa using List.all_eq_true.mp m1 x hx
  · simpa using List.all_eq_true.mp m2 x hx
  · simpa using m4
theorem cmp_sub {xs ys : List PyData} (h : cmpB ys = true) (hs : ∀ x ∈ xs, x ∈ ys) : cmpB xs = true := by
  unfold cmpB at h ⊢
  simp only [Bool.and_eq_true] at h ⊢
  obtain ⟨⟨h1, h2⟩, h3⟩ := h
  refine ⟨⟨List.all_eq_true.mpr fun x hx => List.all_eq_true.mp h1 x (hs x hx), List.all_eq_true.mpr fun x hx => List.all_eq_true.mpr fun y hy => List.all_eq_true.mp (List.all_eq_true.mp h2 x (hs x hx)) y (hs y hy)⟩, List.all_eq_true.mpr fun x hx => List.all_eq_true.mp h3 x (hs x hx)⟩
theorem idx_inj {ls : List (List Int)} {a b : List Int} (ha : a ∈ ls) (hb : b ∈ ls) (h : ls.idxOf a = ls.idxOf b) : a = b := by
  have h1 := List.getElem_idxOf (List.idxOf_lt_length_of_mem ha)
  have h2 := List.getElem_idxOf (List.idxOf_lt_length_of_mem hb)
  rw [← h1, ← h2]
  simp only [h]
/-- min of the good ones is the first good one -/
theorem min_first {n : Nat} (L : Lots n) {p : List Int → Bool} {l : List Int} (hf : (SO n).find? p = some l) : 0 < (((LT n).filter p).map pL).length ∧ applyFn .min1 [.list (((LT n).filter p).map pL)] = .ok (pL l) := by
  obtain ⟨h1, h2, h3⟩ := find_least hf
  have hm : l ∈ (LT n).filter p := List.mem_filter.mpr ⟨L.lt l h2, h1⟩
  cases hG : (LT n).filter p with
  | nil => rw [hG] at hm; cases hm
  | cons x xs =>
    refine ⟨Nat.succ_pos _, ?_⟩
    have hin : ∀ a ∈ x :: xs, a ∈ SO n ∧ p a = true := fun a ha => by
      rw [← hG] at ha
      obtain ⟨q1, q2⟩ := List.mem_filter.mp ha
      exact ⟨L.so a q1, q2⟩
    obtain ⟨m, e, m1, m2⟩ := min_rank (f := fun a => (SO n).idxOf a) (lt := W.dataLt) xs x fun a ha b hb => L.rk a (hin a ha).1 b (hin b hb).1
    have hml : m = l := idx_inj (hin m m1).1 h2 (Nat.le_antisymm (m2 l (by rw [← hG]; exact hm)) (h3 m (hin m m1).1 (hin m m1).2))
    have hc : cmpB ((x :: xs).map pL) = true := by
      rw [← hG]
      refine cmp_sub L.cmp fun y hy => ?_
      obtain ⟨a, ha, rfl⟩ := List.mem_map.mp hy
      exact List.mem_map_of_mem (List.mem_filter.mp ha).1
    have e0 : applyFn .min1 [.list ((x :: xs).map pL)] = if cmpB ((x :: xs).map pL) = true then .ok ((xs.map pL).foldl (fun b y => if W.dataLt y b = true then y else b) (pL x)) else .st := rfl
    rw [e0, if_pos hc, e, hml]
end FhL

set_option maxHeartbeats 1000000
namespace FhL
open PySem PySem.Spec PyProof.Rows L2 Fh
/-! ### _law_is of an answer and itself -/
theorem is_int (n : Nat) (a : Int) : cM (n + 1) 11 [.int a, .int a] = .ok (.bool true, false, none) := by
  have e : cM (n + 1) 11 [.int a, .int a] = runDef P FU (cM n) D11 [.int a, .int a] := rfl
  have h1 : cmpv .eq (.bool false) (.bool false) = .ok true := rfl
  rw [e]
  simp [runDef, D11, B11, startE, evSs, evS, evT, evR, evE, evP, peek, Fh.again, agains, getv, bok, isTy, truth, flat, isNone, eqI, h1, outOf, refOut]
abbrev C11 : Ex := (.comp [("one", 3), ("two", 4)] (.t (.cons (.v 3) (.cons (.v 4) .nil))) .zip (.cons (.v 0) (.cons (.v 1) .nil)) .nil (.call 11 (.cons (.v 3) (.cons (.v 4) .nil))))
abbrev RS (x : Ex) : Sm := (.ite (.isis (.v 1) [.tuple, .list]) (.cons (.ite (.bop false (.cmp .ne (.isi (.v 0) .tuple) (.isi (.v 1) .tuple)) (.nt (.isis (.v 0) [.tuple, .list]))) (.cons (.ret (.c (.bool false))) .nil) .nil) (.cons (.ret (.bop true (.cmp .eq (.fn .len (.cons (.v 0) .nil)) (.fn .len (.cons (.v 1) .nil))) x)) .nil)) .nil)
theorem is_pair (call : Calls) (x y : PyData) (ex : call 11 [x, x] = .ok (.bool true, false, none)) (ey : call 11 [y, y] = .ok (.bool true, false, none)) : runDef P FU call D11 [.tuple [x, y], .tuple [x, y]] = .ok (.bool true, false, none) := by
  have hc : evE rP call C11 [some (.tuple [x, y], .fz), some (.tuple [x, y], .fz), none, none, none] = .ok (tr [x, y], true, [some (.tuple [x, y], .fz), some (.tuple [x, y], .fz), none, none, none]) := by
    refine comp_run (ρ1 := [some (.tuple [x, y], .fz), some (.tuple [x, y], .fz), none, none, none]) (ρ2 := [some (.tuple [x, y], .fz), some (.tuple [x, y], .fz), none, none, none]) (ds := [.tuple [x, y], .tuple [x, y]]) (xs := [.tuple [x, x], .tuple [y, y]]) rfl rfl rfl (by rw [sizeLine_eq]; show 2 ≤ 16777216; decide) ?_
    have one : ∀ z : PyData, call 11 [z, z] = .ok (.bool true, false, none) → ∀ acc, stepC rP call [("one", 3), ("two", 4)] (.t (.cons (.v 3) (.cons (.v 4) .nil))) .nil (.call 11 (.cons (.v 3) (.cons (.v 4) .nil))) (acc, [some (.tuple [x, y], .fz), some (.tuple [x, y], .fz), none, none, none]) (.tuple [z, z]) = .ok (acc ++ [.bool true], [some (.tuple [x, y], .fz), some (.tuple [x, y], .fz), none, none, none]) := fun z ez acc => by
      simp [stepC, asgT, asgTs, bok, evC, evE, evP, peek, Fh.again, agains, getv, callE, r11, ez, flat, Fh.wipe]
    refine fold_mm (g := fun _ => PyData.bool true) [.tuple [x, x], .tuple [y, y]] [] fun z hz acc => ?_
    rcases List.mem_cons.mp hz with rfl | hz
    · exact one x ex acc
    · rw [List.mem_singleton.mp hz]
      exact one y ey acc
  have hf : evE rP call (.fn .all (.cons C11 .nil)) [some (.tuple [x, y], .fz), some (.tuple [x, y], .fz), none, none, none] = .ok (.bool true, false, [some (.tuple [x, y], .fz), some (.tuple [x, y], .fz), none, none, none]) := by
    have e : evE rP call (.fn .all (.cons C11 .nil)) [some (.tuple [x, y], .fz), some (.tuple [x, y], .fz), none, none, none] = ((((evE rP call C11 [some (.tuple [x, y], .fz), some (.tuple [x, y], .fz), none, none, none]).bind fun p => Fh.R.ok (p.1, p.2.2)).bind fun (x, ρ1) => Fh.R.ok ([x], ρ1)).bind fun (zs, ρ1) => (agains (.cons C11 .nil) zs ρ1).bind fun ds => (applyFn .all ds).bind fun z => Fh.R.ok (z, false, ρ1)) := rfl
    rw [e, hc]
    rfl
  have e : runDef P FU call D11 [.tuple [x, y], .tuple [x, y]] = (evSs rP call FU B11 [some (.tuple [x, y], .fz), some (.tuple [x, y], .fz), none, none, none]).bind (outOf none) := rfl
  have hB : ∃ rest, B11 = .cons (RS (.fn .all (.cons C11 .nil))) rest := ⟨_, rfl⟩
  obtain ⟨rest, hB⟩ := hB
  have hp : ∀ ρ r, peek (.fn .all (.cons C11 .nil)) ρ r = r.bind fun p => .ok (p.1, p.2.2) := fun _ _ => rfl
  rw [e, hB]
  generalize (Ex.fn .all (.cons C11 .nil)) = z at hf hp
  have h1 : cmpv .ne (.bool true) (.bool true) = .ok false := rfl
  simp [evSs, evS, evT, evR, evE, evP, peek, Fh.again, agains, getv, bok, isTy, truth, flat, h1, lenT, eqI, hf, outOf, refOut]
theorem is_dry (a : Int) : cM 6 11 [.tuple [.str "dry", .int a], .tuple [.str "dry", .int a]] = .ok (.bool true, false, none) :=
  is_pair (cM 5) _ _ (by kernel_rfl) (is_int 4 a)
def isB (n : Nat) : Bool := (SO n).all fun l => match cM 6 11 [.tuple [.str "stops", eL l], .tuple [.str "stops", eL l]] with
  | .ok (.bool true, false, none) => true
  | _ => false
theorem is0 : isB 0 = true := by decide +kernel
theorem is1 : isB 1 = true := by decide +kernel
theorem is2 : isB 2 = true := by decide +kernel
theorem is3 : isB 3 = true := by decide +kernel
theorem is4 : isB 4 = true := by decide +kernel
theorem is5 : isB 5 = true := by decide +kernel
theorem is6 : isB 6 = true := by decide +kernel
theorem is_lot (n : Nat) (h : n ≤ 6) {l : List Int} (hl : l ∈ SO n) : cM 6 11 [.tuple [.str "stops", eL l], .tuple [.str "stops", eL l]] = .ok (.bool true, false, none) := by
  have hb : isB n = true := by
    match n, h with
    | 0, _ => exact is0
    | 1, _ => exact is1
    | 2, _ => exact is2
    | 3, _ => exact is3
    | 4, _ => exact is4
    | 5, _ => exact is5
    | 6, _ => exact is6
  have := List.all_eq_true.mp hb l hl
  split at this
  · assumption
  · cases this
theorem s10_ok (call : Calls) (S H c2 c3 c4 c7 c8 c9 c10 c13 : Cell) (xs : List PyData) (hx : xs.length ≤ 100) {t w : Int} {r : PyData} (ef : flat r = false) (e7 : call 7 [.tuple xs, .int t, .int w] = .ok (r, false, none)) (e11 : call 11 [r, r] = .ok (.bool true, false, none)) :
    evS rP call FU ls10 [S, H, c2, c3, c4, cI t, cI w, c7, c8, c9, c10, some (r, .fz), oC (.list xs), c13, none] = .ok (.nx [S, H, c2, c3, c4, cI t, cI w, c7, c8, c9, c10, some (r, .fz), oC (.list xs), c13, none]) := by
  have hl : xs.length ≤ 16777216 := by omega
  simp [evSs, evS, evT, evE, evP, peek, Fh.again, agains, getv, callE, r7, r11, bok, items, e7, e11, ef, flat, truth, hl, sizeLine_eq, frzs, frz]
end FhL

set_option maxHeartbeats 1000000
namespace FhL
open PySem PySem.Spec PyProof.Rows L2 Fh
theorem seq2 {refs : Refs} {call : Calls} {fuel : Nat} {a b : Sm} {ss : Sms} {ρ ρ1 : Fh.Env} (e : evSs refs call fuel (.cons a (.cons b .nil)) ρ = .ok (.nx ρ1)) : evSs refs call fuel (.cons a (.cons b ss)) ρ = evSs refs call fuel ss ρ1 := by
  have e : ((evS refs call fuel a ρ).bind fun
    | .nx ρ1 => evSs refs call fuel (.cons b .nil) ρ1
    | r => Fh.R.ok r) = .ok (.nx ρ1) := e
  obtain ⟨fl, e1, e2⟩ := bind_ok e
  cases fl with
  | nx ρ2 =>
    rw [seqN e1]
    have e2 : ((evS refs call fuel b ρ2).bind fun
      | .nx ρ1 => Fh.R.ok (.nx ρ1)
      | r => Fh.R.ok r) = .ok (.nx ρ1) := e2
    obtain ⟨fl, e3, e4⟩ := bind_ok e2
    cases fl with
    | nx ρ3 => cases e4; exact seqN e3
    | br ρ3 => cases e4
    | ct ρ3 => cases e4
    | rt d f ρ3 => cases e4
  | br ρ2 => cases e2
  | ct ρ2 => cases e2
  | rt d f ρ2 => cases e2
def Shape (ρ : Fh.Env) : Prop := ∃ (S : Cell) (h : PyData) (c2 c3 c4 c5 c6 c7 c8 c9 c10 c11 c12 c13 : Cell), WF h ∧ ρ = [S, oC h, c2, c3, c4, c5, c6, c7, c8, c9, c10, c11, c12, c13, none]
abbrev bodyL : Sms := .cons ls0 (.cons ls1 (.cons ls2 (.cons ls3 (.cons ls4 (.cons ls5 (.cons ls6 (.cons ls7 (.cons ls8 (.cons ls9 (.cons ls10 .nil))))))))))
/-- the two answers are one -/
theorem answer {ds : List (Int × Int)} {p t w : Int} (g : Gd ds p) (hl : ds.length ≤ 6) (ht : 1 ≤ t ∧ t ≤ 100) (hw : 1 ≤ w ∧ w ≤ 200) (S H c2 c3 c4 c7 c8 c11 c13 : Cell) :
    ∃ r c9', flat r = false ∧ cM 6 7 [.tuple (ds.map dq), .int t, .int w] = .ok (r, false, none) ∧ cM 6 11 [r, r] = .ok (.bool true, false, none) ∧
      evS rP (cM 6) FU ls9 [S, H, c2, c3, c4, cI t, cI w, c7, c8, oC (.list (((LT ds.length).filter fun l => drvL t w (l.map PyData.int) 0 ds t 0 == w).map pL)), some (.tuple (Fh.upTo 0 (ds.map dq).length), .fz), c11, oC (.list (ds.map dq)), c13, none] =
        .ok (.nx [S, H, c2, c3, c4, cI t, cI w, c7, c8, c9', some (.tuple (Fh.upTo 0 (ds.map dq).length), .fz), some (r, .fz), oC (.list (ds.map dq)), c13, none]) := by
  have L := lots_of ds.length hl
  obtain ⟨_, _, e6⟩ := rk_all ds.length hl
  have hlen : (ds.map dq).length = ds.length := List.length_map _
  have hx : (ds.map dq).length ≤ 10 := by omega
  have e4 := chk_ok ds (t := t) (w := w) (by omega) g.asc g.bd ht hw
  have shW := L.sh _ L.whole
  have eW : PyData.tuple (Fh.upTo 0 (ds.map dq).length) = eL ((List.range ds.length).map fun (i : Nat) => (i : Int)) := by rw [hlen, upT]
  have dW : ∀ l ∈ SO ds.length, cM 5 5 [.tuple (ds.map dq), .int t, eL l] = .ok (.int (dryL t (l.map PyData.int) 0 ds 0 t), false, none) := fun l hl => dry_ok 4 ds t _ (L.sh l hl)
  have vW : ∀ l ∈ SO ds.length, cM 6 12 [.list (ds.map dq), .int t, .int w, eL l] = .ok (.int (drvL t w (l.map PyData.int) 0 ds t 0), false, none) := fun l hl => drv_ok 5 ds t w _ (L.sh l hl)
  have eq : ∀ ys : List PyData, drvL t w ys 0 ds t 0 = if dryL t ys 0 ds 0 t < w then dryL t ys 0 ds 0 t else w := fun ys => drv_eq g.asc (by omega) (Int.le_refl _) (by omega)
  have good : ∀ ys : List PyData, (drvL t w ys 0 ds t 0 == w) = decide (w ≤ dryL t ys 0 ds 0 t) := fun ys => by
    rw [eq ys]
    by_cases c : dryL t ys 0 ds 0 t < w
    · rw [if_pos c, decide_eq_false (by omega)]
      exact beq_eq_false_iff_ne.mpr (by omega)
    · rw [if_neg c, decide_eq_true (by omega)]
      exact beq_self_eq_true _
  have e5 : cM 5 5 [.tuple (ds.map dq), .int t, .tuple (Fh.upTo 0 (ds.map dq).length)] = .ok (.int (dryL t (((List.range ds.length).map fun (i : Nat) => (i : Int)).map PyData.int) 0 ds 0 t), false, none) := by
    rw [eW]
    exact dW _ L.whole
  have e7 : ∀ r, runDef P FU (cM 5) D7 [.tuple (ds.map dq), .int t, .int w] = .ok r → cM 6 7 [.tuple (ds.map dq), .int t, .int w] = .ok r := fun r h => h
  by_cases c : dryL t (((List.range ds.length).map fun (i : Nat) => (i : Int)).map PyData.int) 0 ds 0 t < w
  · have r7 := e7 _ (stops_dry (cM 5) (ds.map dq) t w hx e4 e5 c)
    have hG : ((LT ds.length).filter fun l => drvL t w (l.map PyData.int) 0 ds t 0 == w) = [] := by
      refine List.filter_eq_nil_iff.mpr fun l hl => ?_
      rw [good]
      have := dry_mono (t := t) (ys := l.map PyData.int) (zs := ((List.range ds.length).map fun (i : Nat) => (i : Int)).map PyData.int) (ds := ds) (k := 0) (place := 0) (held := t) (held' := t) g.asc (by omega) (Int.le_refl _) (Int.le_refl _) fun j _ hj _ => by
        unfold inAny
        refine List.any_eq_true.mpr ⟨.int j, List.mem_map.mpr ⟨j, List.mem_map.mpr ⟨j, List.mem_range.mpr (by omega), rfl⟩, rfl⟩, ?_⟩
        simp [PyData.eqv]
      simp
      omega
    refine ⟨_, oC (.list []), rfl, r7, is_dry _, ?_⟩
    rw [hG]
    have ev : cM 6 12 [.list (ds.map dq), .int t, .int w, .tuple (Fh.upTo 0 (ds.map dq).length)] = .ok (.int (dryL t (((List.range ds.length).map fun (i : Nat) => (i : Int)).map PyData.int) 0 ds 0 t), false, none) := by
      rw [eW, vW _ L.whole, eq, if_pos c]
    exact s9_dry (cM 6) S H c2 c3 c4 c7 c8 c11 c13 (ds.map dq) _ ev
  · have hsome : ∃ l, (SO ds.length).find? (fun l => decide (w ≤ dryL t (l.map PyData.int) 0 ds 0 t)) = some l := by
      cases hf : (SO ds.length).find? (fun l => decide (w ≤ dryL t (l.map PyData.int) 0 ds 0 t)) with
      | some l => exact ⟨l, rfl⟩
      | none =>
        exact absurd (decide_eq_true (Int.not_lt.mp c)) (List.find?_eq_none.mp hf _ L.whole)
    obtain ⟨l, hf⟩ := hsome
    have r7 := e7 _ (stops_lot (cM 5) (ds.map dq) t w (fun l => dryL t (l.map PyData.int) 0 ds 0 t) hx e4 e5 c (by rw [hlen]; exact e6) dW hf)
    have hf2 : (SO ds.length).find? (fun l => drvL t w (l.map PyData.int) 0 ds t 0 == w) = some l := by
      have : (fun l : List Int => drvL t w (l.map PyData.int) 0 ds t 0 == w) = fun l => decide (w ≤ dryL t (l.map PyData.int) 0 ds 0 t) := funext fun l => good _
      rw [this]
      exact hf
    obtain ⟨m1, m2⟩ := min_first L hf2
    exact ⟨_, _, rfl, r7, is_lot ds.length hl (find_least hf).2.1, s9_lot (cM 6) S H c2 c3 c4 (cI t) (cI w) c7 c8 _ c11 _ c13 _ l m1 m2⟩
theorem turn_ok {ρ : Fh.Env} (s : Shape ρ) : ∃ ρ', evSs rP (cM 6) FU bodyL ρ = .ok (.nx ρ') ∧ Shape ρ' := by
  obtain ⟨S, h, c2, c3, c4, c5, c6, c7, c8, c9, c10, c11, c12, c13, w, rfl⟩ := s
  have b0 := s0_ok (cM 6) S c2 c3 c4 c5 c6 c7 c8 c9 c10 c11 c12 c13 (oC h)
  obtain ⟨z, h1, e1, hz, w1⟩ := some_ok 4 (w0 := .int 4) (w1 := .int 9) (w2 := .int 20) w
  obtain ⟨m, rfl, m0, hm, ml⟩ := m_ok (by decide) (by decide) (by decide) hz
  have b1 := s1_ok (cM 6) S c2 c3 c4 c5 c6 c7 c8 c9 c10 c11 (dL []) (cI 0) e1
  obtain ⟨h2, c4', ds, p, b2, w2, g, hl⟩ := ls2_ok S c2 c4 c5 c6 c7 c8 c9 c10 c11 m0 ml w1
  obtain ⟨z3, h3, e3, hz3, w3⟩ := some_ok 4 (w0 := .int 8) (w1 := .int 20) (w2 := .int 60) w2
  obtain ⟨m3, rfl, m30, hm3, ml3⟩ := m_ok (by decide) (by decide) (by decide) hz3
  obtain ⟨t, h4, e4, t0, t1, w4⟩ := draw_ok 5 w3 m30 ml3
  have b3 := s3_ok (cM 6) S c2 (cI m) c4' c5 c6 c7 c8 c9 c10 c11 (dL ds) (cI p) e3 e4
  obtain ⟨z5, h5, e5, hz5, w5⟩ := some_ok 4 (w0 := .int 30) (w1 := .int 90) (w2 := .int 150) w4
  obtain ⟨m5, rfl, m50, hm5, ml5⟩ := m_ok (by decide) (by decide) (by decide) hz5
  obtain ⟨u, h6, e6, u0, u1, w6⟩ := draw_ok 5 w5 m50 ml5
  have b4 := s4_ok (cM 6) S c2 (cI m) c4' (cI (1 + t)) c6 c7 c8 c9 c10 c11 (dL ds) (cI p) e5 e6
  obtain ⟨c8', b5⟩ := s56 S (oC h6) c2 (cI m) c4' (cI (1 + t)) (cI (1 + u)) c7 c8 c9 c10 c11 (cI p) ds hl
  have L := lots_of ds.length hl
  have b7 := s7_ok (cM 6) S (oC h6) c2 (cI m) c4' c8' c9 c10 c11 (cI p) (ds.map dq) (1 + t) (1 + u) (fun l => drvL (1 + t) (1 + u) (l.map PyData.int) 0 ds (1 + t) 0) (LT ds.length)
    (by
      have : ∀ n, n ≤ 6 → (LT n).length ≤ 100 := fun n hn => by
        match n, hn with
        | 0, _ => decide
        | 1, _ => decide
        | 2, _ => decide
        | 3, _ => decide
        | 4, _ => decide
        | 5, _ => decide
        | 6, _ => decide
      exact this _ hl) fun l hl => drv_ok 5 ds (1 + t) (1 + u) _ (L.sh l (L.so l hl))
  have b8 := s8_ok (cM 6) S (oC h6) c2 (cI m) c4' (cI (1 + t)) (cI (1 + u)) (some (.list ((LT ds.length).map eL), .fz)) c8' (oC (.list (((LT ds.length).filter fun l => drvL (1 + t) (1 + u) (l.map PyData.int) 0 ds (1 + t) 0 == 1 + u).map pL))) c10 c11 (cI p) (ds.map dq) (by rw [List.length_map]; omega)
  obtain ⟨r, c9', fr, e7, e11, b9⟩ := answer (t := 1 + t) (w := 1 + u) g hl ⟨by omega, by rcases hm3 with q | q | q <;> omega⟩ ⟨by omega, by rcases hm5 with q | q | q <;> omega⟩ S (oC h6) c2 (cI m) c4' (some (.list ((LT ds.length).map eL), .fz)) c8' c11 (cI p)
  have b10 := s10_ok (cM 6) S (oC h6) c2 (cI m) c4' (some (.list ((LT ds.length).map eL), .fz)) c8' c9' (some (.tuple (Fh.upTo 0 (ds.map dq).length), .fz)) (cI p) (ds.map dq) (by rw [List.length_map]; omega) fr e7 e11
  refine ⟨[S, oC h6, c2, cI m, c4', cI (1 + t), cI (1 + u), some (.list ((LT ds.length).map eL), .fz), c8', c9', some (.tuple (Fh.upTo 0 (ds.map dq).length), .fz), some (r, .fz), dL ds, cI p, none], ?_, S, h6, _, _, _, _, _, _, _, _, _, _, _, _, w6, rfl⟩
  rw [seqN b0, seqN b1, seqN b2, seqN b3, seqN b4, seq2 b5, seqN b7, seqN b8, seqN b9, seqN b10]
  rfl
theorem for_ok : ∀ (xs : List Int) {ρ : Fh.Env}, Shape ρ → ∃ ρ', forF (.v 2) (fun ρ => evSs rP (cM 6) FU bodyL ρ) (xs.map PyData.int) ρ = .ok (.nx ρ') ∧ Shape ρ'
  | [], ρ, s => ⟨ρ, rfl, s⟩
  | x :: xs, ρ, s => by
    obtain ⟨S, h, c2, c3, c4, c5, c6, c7, c8, c9, c10, c11, c12, c13, w, rfl⟩ := s
    obtain ⟨ρ1, e1, s1⟩ := turn_ok (ρ := [S, oC h, cI x, c3, c4, c5, c6, c7, c8, c9, c10, c11, c12, c13, none]) ⟨S, h, cI x, c3, c4, c5, c6, c7, c8, c9, c10, c11, c12, c13, w, rfl⟩
    obtain ⟨ρ2, e2, s2⟩ := for_ok xs s1
    refine ⟨ρ2, ?_, s2⟩
    show ((evSs rP (cM 6) FU bodyL [S, oC h, cI x, c3, c4, c5, c6, c7, c8, c9, c10, c11, c12, c13, none]).bind fun
      | .nx ρ2 => forF (.v 2) (fun ρ => evSs rP (cM 6) FU bodyL ρ) (xs.map PyData.int) ρ2
      | .ct ρ2 => forF (.v 2) (fun ρ => evSs rP (cM 6) FU bodyL ρ) (xs.map PyData.int) ρ2
      | .br ρ2 => Fh.R.ok (.nx ρ2)
      | .rt d f ρ2 => Fh.R.ok (.rt d f ρ2)) = _
    rw [e1]
    exact e2
abbrev stH0 : Sm := .asg (.v 1) (.call 8 (.cons (.v 0) .nil))
abbrev stFor : Sm := .for_ (.v 2) .rng (.cons (.c (.int (6))) .nil) bodyL
theorem h0_ok (call : Calls) {L h : PyData} (e : call 8 [L] = .ok (h, true, none)) : evS rP call FU stH0 [some (L, .fz), none, none, none, none, none, none, none, none, none, none, none, none, none, none] = .ok (.nx [some (L, .fz), oC h, none, none, none, none, none, none, none, none, none, none, none, none, none]) := by
  simp [evSs, evS, evE, evP, peek, Fh.again, agains, getv, callE, r8, bok, e, frzs, frz, asgT, fgOf]
theorem main (ns : List Int) (hl : ns.length ≤ 63) : callM P (ov FU) 1 FU 7 13 [.list (ns.map PyData.int)] = .ok (.bool true, false, none) := by
  obtain ⟨h, e, w⟩ := hand_ok 5 ns hl
  have q : callM P (ov FU) 1 FU 7 13 [.list (ns.map PyData.int)] = (evSs rP (cM 6) FU (.cons stH0 (.cons stFor (.cons (.ret (.c (.bool true))) .nil))) [some (.list (ns.map PyData.int), .fz), none, none, none, none, none, none, none, none, none, none, none, none, none, none]).bind (outOf none) := rfl
  obtain ⟨ρ', e2, s2⟩ := for_ok [0, 1, 2, 3, 4, 5] (ρ := [some (.list (ns.map PyData.int), .fz), oC h, none, none, none, none, none, none, none, none, none, none, none, none, none]) ⟨_, h, _, _, _, _, _, _, _, _, _, _, _, _, w, rfl⟩
  have e3 : evS rP (cM 6) FU stFor [some (.list (ns.map PyData.int), .fz), oC h, none, none, none, none, none, none, none, none, none, none, none, none, none] = .ok (.nx ρ') := for_run (ρ1 := [some (.list (ns.map PyData.int), .fz), oC h, none, none, none, none, none, none, none, none, none, none, none, none, none]) (ds := [.int 6]) rfl (rng7 6 (by decide)) e2
  rw [q, seqN (h0_ok (cM 6) e), seqN e3]
  rfl
section
variable {prog : Program} {w : World} {K : PySem.W.Frag} {h : Heap} {mg : Str → Option Value} {f : Addr}
theorem facts (X : K.In h) (G : h.Ns mainGlobals mg) (hfa : mg ("law" : Str) = some (.ref f)) (c : He.SaysD fa fn K) (g : glsB gls K = true) :
    ∃ fd : FuncData, (∀ (s : Shared) (v : Value), BindsTo s fd ⟨[v], []⟩ [("script", v)]) ∧ ∀ base : Heap, K.In base → base.Ns mainGlobals mg → FnOk prog w K mg base CX0 7 f fd ["script"] (spAny K P ov 1 7 13) := by
  obtain ⟨fd, F⟩ := c.def_ 13 (d := dD 25 "law") rfl
  have e := hfa.symm.trans (He.glo_ok X G (c.fact 13 (f := .glo "law") rfl))
  cases e
  have b := FunD.bindsA (ps := ["script"]) F fun _ _ _ _ _ _ us hl => match us, hl with | [_], _ => rfl
  exact ⟨fd, fun s v => b s [v] rfl, fun base _ _ => ok_any (fx X G c g) hov base 7 13 "law" rfl F s13 c13 rfl rfl (by decide)⟩
end
end FhL
open PySem PySem.W PySem.Calls PyProof.Rows
theorem PySem.Challenge.cw_ferryhouse_k44_whole_supplied_cars_holds : PySem.Challenge.rw_ferryhouse_k44_whole_supplied_cars.Holds := by
  w_on; o_law
  refine HandSHeadRun.head_any (r := OpenLaw.row PySem.Challenge.rw_ferryhouse_k44_whole_supplied_cars) (q := view (OpenLaw.row PySem.Challenge.rw_ferryhouse_k44_whole_supplied_cars).prog [25]) (H := FhL.hk) (ob := FhL.ob) (M := 4000) (loose := FhL.loose) (d := HandSHeadRun.topDef (OpenLaw.row PySem.Challenge.rw_ferryhouse_k44_whole_supplied_cars).prog 25) (kwd := []) FhL.ob_eq
    (by kernel_rfl) (fun s => by kernel_rfl) FhL.run (by kernel_rfl) (by kernel_rfl) (by kernel_rfl) (by rfl) (by first | assumption | decide +kernel) (by decide +kernel) ⟨rfl, rfl, rfl, rfl, rfl, by decide +kernel⟩ ?hw ?hc
  case hw => w_witness2
  case hc =>
    refine L2.walk_ofE (l := PySem.Challenge.rw_ferryhouse_k44_whole_supplied_cars) (n := 63) (k := 7) (x := "script") (CX := L2.CX0) rfl (by decide) (by kernel_rfl) ⟨rfl, by decide, by decide⟩ ?F (fun _ _ _ _ z => z)
    intro w mg fa h Y G hmg0
    obtain ⟨K, KX, c, g⟩ := Y
    have hmg : mg ("law" : PySem.Str) = some (.ref fa) := by
      have e : (HandSHeadRun.topDef (OpenLaw.row PySem.Challenge.rw_ferryhouse_k44_whole_supplied_cars).prog 25).name = ("law" : PySem.Str) := by kernel_rfl
      rw [← e]
      exact hmg0
    obtain ⟨fd, hb, hF⟩ := FhL.facts (prog := (PySem.Challenge.rw_ferryhouse_k44_whole_supplied_cars).prog) (w := w) KX G hmg c g
    exact ⟨K, fd, Fh.spAny K FhL.P FhL.ov 1 7 13, KX, hb, fun H a ns hl _ hS => Fh.law_any rfl hS ⟨FhL.FU, FhL.main ns hl⟩, hF⟩
