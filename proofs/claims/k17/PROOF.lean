import PyProof.Rows.All
import Wide.All
import OpenK.AllK
import Wide.FinOn
import KE.KStateDown
import Lean
import PySem.Challenge.RW_juriesagree_k17_weights_and_their_outcom
import HandS.ForMost
import KE.SortData
import KE.DataMinMax
import KE.DataCmp
import HandS.Base
import HandS.Call
import HandS.Exc
import HandS.ExcOwn
import HandS.Ends
import HandS.HeadEnd
import HandS.Defaults
import KE.LtData
import KE.LtSeq
import KE.KSortTup
import HandS.Wide
import HandS.TupAny
import HandS.TupMul
import HandS.Deep
import HandS.IsInst
import HandS.SortInts
import HandS.Style
import HandS.TupLe
import HandS.Gcd
import KE.KMathGC
import HandS.Flow
import HandS.ExcIs
import HandS.HeadHook2
import HandS.WordsExc
import HandS.Iter
import HandS.Walk
import KE.KRevSl
import HandS.NoneIn
import HandS.Conv
import HandS.Zip
import HandS.TryMany
import HandS.Head0
import HandS.Head1
import HandS.Head2
import HandS.Head3
import HandS.HeadHook1
set_option Elab.async false
set_option linter.all false
set_option maxRecDepth 100000
set_option maxHeartbeats 2000000
/-! The evaluator: a part of Python over plain trees. -/
namespace Jr
open PySem

/-- a value as a tree. scr: the law's script -/
inductive Tr where
  | non | bl (b : Bool) | int (i : Int) | str (s : Str)
  | tup (ts : List Tr) | lst (ts : List Tr) | scr (ns : List Int)

/-- ends: a value, an exception of the class so named, or nothing is known -/
inductive R (α : Type) where
  | ok (a : α) | ex (c : Str) | no

theorem no_rfl {α : Sort u} {a b : α} (h : a = b) : a = b := h
namespace R
def bind {α β : Type} : R α → (α → R β) → R β
  | .ok a, f => f a
  | .ex c, _ => .ex c
  | .no, _ => .no
@[simp] theorem ok_bind {α β : Type} (a : α) (f : α → R β) : (R.ok a).bind f = f a := no_rfl rfl
@[simp] theorem ex_bind {α β : Type} (c : Str) (f : α → R β) : (R.ex c : R α).bind f = .ex c := no_rfl rfl
@[simp] theorem no_bind {α β : Type} (f : α → R β) : (R.no : R α).bind f = .no := no_rfl rfl
end R

abbrev Env := List (Option Tr)

/-! ### values -/
def SZ : Nat := 16777216

mutual
def eqv : Tr → Tr → Bool
  | .non, .non => true
  | .bl a, .bl b => a == b
  | .bl a, .int j => (if a then 1 else 0) == j
  | .int i, .bl b => i == (if b then 1 else 0)
  | .int i, .int j => i == j
  | .str x, .str y => x == y
  | .lst xs, .lst ys => eqvs xs ys
  | .tup xs, .tup ys => eqvs xs ys
  | .non, .bl _ | .non, .int _ | .non, .str _ | .non, .lst _ | .non, .tup _ | .non, .scr _ => false
  | .bl _, .non | .bl _, .str _ | .bl _, .lst _ | .bl _, .tup _ | .bl _, .scr _ => false
  | .int _, .non | .int _, .str _ | .int _, .lst _ | .int _, .tup _ | .int _, .scr _ => false
  | .str _, .non | .str _, .bl _ | .str _, .int _ | .str _, .lst _ | .str _, .tup _ | .str _, .scr _ => false
  | .lst _, .non | .lst _, .bl _ | .lst _, .int _ | .lst _, .str _ | .lst _, .tup _ | .lst _, .scr _ => false
  | .tup _, .non | .tup _, .bl _ | .tup _, .int _ | .tup _, .str _ | .tup _, .lst _ | .tup _, .scr _ => false
  | .scr _, _ => false
def eqvs : List Tr → List Tr → Bool
  | [], [] => true
  | x :: xs, y :: ys => eqv x y && eqvs xs ys
  | [], _ :: _ => false
  | _ :: _, [] => false
end

/-- texts that can be laid; a tree of at most that depth, no script in it -/
def sokB (x : Str) : Bool := x.cps.all (· < 0x110000)
mutual
def shB : Nat → Tr → Bool
  | _, .non | _, .bl _ | _, .int _ => true
  | _, .str x => sokB x
  | 0, .tup _ | 0, .lst _ => false
  | n + 1, .tup ts => shBs n ts
  | n + 1, .lst ts => shBs n ts
  | _, .scr _ => false
def shBs : Nat → List Tr → Bool
  | _, [] => true
  | n, t :: ts => shB n t && shBs n ts
end
def sh (t : Tr) : Bool := shB 60 t

-- no list in it
mutual
def im : Tr → Bool
  | .non | .bl _ | .int _ | .str _ => true
  | .tup ts => ims ts
  | .lst _ | .scr _ => false
def ims : List Tr → Bool
  | [] => true
  | t :: ts => im t && ims ts
end

def imsT : Tr → Bool
  | .lst ts => ims ts
  | _ => false
def flat : Tr → Bool
  | .non | .bl _ | .int _ | .str _ => true
  | _ => false

def tru : Tr → R Bool
  | .non => .ok false
  | .bl b => .ok b
  | .int i => .ok (i != 0)
  | .str s => if s.length ≤ SZ then .ok ((s.length : Int) != 0) else .no
  | .tup ts => .ok (!ts.isEmpty)
  | .lst ts => .ok (!ts.isEmpty)
  | .scr ns => .ok (!ns.isEmpty)

inductive BinO where | add | sub | mul | fdiv | mod | pow | shl | shr | band | bor | bxor
  deriving DecidableEq
inductive CmpO where | eq | ne | lt | le | gt | ge | is | isnot | inn | notin
  deriving DecidableEq

def mulOk (a b : Int) : Bool :=
  (decide (-(2 ^ 64) < a) && decide (a < 2 ^ 64)) || (decide (-(2 ^ 64) < b) && decide (b < 2 ^ 64)) || decide (a.natAbs.log2 + b.natAbs.log2 < 1000000)
def smallOk (i : Int) : Bool := decide (-(2 ^ 62) ≤ i) && decide (i < 2 ^ 62)
def powOk (a b : Int) : Bool := decide (0 ≤ b) && decide (b ≤ 1000000) && decide (a.natAbs < 2 ^ 64)

def binT : BinO → Tr → Tr → R Tr
  | .add, .int a, .int b => .ok (.int (a + b))
  | .add, .str a, .str b => if a.length + b.length ≤ SZ then .ok (.str (a ++ b)) else .no
  | .add, .lst a, .lst b => if a.length + b.length ≤ SZ then .ok (.lst (a ++ b)) else .no
  | .add, .tup a, .tup b => if a.length + b.length ≤ SZ then .ok (.tup (a ++ b)) else .no
  | .sub, .int a, .int b => .ok (.int (a - b))
  | .mul, .int a, .int b => if mulOk a b then .ok (.int (a * b)) else .no
  | .mul, .lst a, .int k => if smallOk k && decide (a.length * k.toNat ≤ SZ) then .ok (.lst (List.replicate k.toNat a).flatten) else .no
  | .mul, .tup a, .int k => if !a.isEmpty && decide (1 ≤ k) && decide (k ≤ 1000) && decide (a.length ≤ 1000) then .ok (.tup (List.replicate k.toNat a).flatten) else .no
  | .fdiv, .int a, .int b => if 0 < b && decide (b.natAbs.log2 < 9000) then .ok (.int (a / b)) else if b < 0 && decide (b.natAbs < 1073741824) then .ok (.int (a.fdiv b)) else .no
  | .mod, .int a, .int b => if 0 < b then .ok (.int (a % b)) else if b < 0 then .ok (.int (a.fmod b)) else .no
  | .pow, .int a, .int b => if powOk a b then .ok (.int (a ^ b.toNat)) else .no
  | .shl, .int a, .int b => if powOk a b then .ok (.int (a * 2 ^ b.toNat)) else .no
  | .shr, .int a, .int b => if 0 ≤ b then .ok (.int (a / 2 ^ b.toNat)) else .no
  | .band, .int a, .int b => .ok (.int (Builtin.bitAnd a b))
  | .bor, .int a, .int b => .ok (.int (Builtin.bitOr a b))
  | .bxor, .int a, .int b => .ok (.int (Builtin.bitXor a b))
  | _, _, _ => .no

def intsO : List Tr → Option (List Int)
  | [] => some []
  | .int i :: ts => (intsO ts).map (i :: ·)
  | _ :: _ => none
def blsO : List Tr → Option (List Bool)
  | [] => some []
  | .bl i :: ts => (blsO ts).map (i :: ·)
  | _ :: _ => none

mutual
/-- as the library's data -/
def toPy : Tr → PyData
  | .non => .none
  | .bl b => .bool b
  | .int i => .int i
  | .str s => .str s
  | .tup ts => .tuple (toPys ts)
  | .lst ts => .list (toPys ts)
  | .scr _ => .dict []
def toPys : List Tr → List PyData
  | [] => []
  | t :: ts => toPy t :: toPys ts
end
/-- a is less than b, for trees that can be compared -/
def ltv (a b : Tr) : Bool := PySem.W.dataLt (toPy a) (toPy b)
def alk (a b : Tr) : Bool := PySem.W.alike (toPy a) (toPy b)
def notNon : Tr → Bool
  | .non => false
  | _ => true
def ordT (f : Tr → Tr → Bool) (a b : Tr) : R Bool := if alk a b && notNon a && sh a && sh b then .ok (f a b) else .no
def ltT : Tr → Tr → R Bool
  | .int a, .int b => .ok (decide (a < b))
  | a, b => ordT ltv a b
def leT : Tr → Tr → R Bool
  | .int a, .int b => .ok (decide (a ≤ b))
  | a, b => ordT (fun a b => !ltv b a) a b
def gtT : Tr → Tr → R Bool
  | .int a, .int b => .ok (decide (b < a))
  | a, b => ordT (fun a b => ltv b a) a b
def geT : Tr → Tr → R Bool
  | .int a, .int b => .ok (decide (b ≤ a))
  | a, b => ordT (fun a b => !ltv a b) a b
def isT : Tr → Tr → R Bool
  | .bl a, .bl b => .ok (a == b)
  | .non, .non => .ok true
  | _, .non => .ok false
  | _, _ => .no
def innT : Tr → Tr → R Bool
  | x, .lst ts => if sh x && sh (.lst ts) then .ok (ts.any fun z => eqv z x) else .no
  | x, .tup ts => if sh x && sh (.tup ts) then .ok (ts.any fun z => eqv z x) else .no
  | _, _ => .no
def eqT : Tr → Tr → R Bool
  | .str a, .str b => .ok (a == b)
  | a, b => if sh a && sh b then .ok (eqv a b) else .no
theorem eqT_cases (a b : Tr) : (∃ x y, a = .str x ∧ b = .str y) ∨ eqT a b = if sh a && sh b then .ok (eqv a b) else .no := by
  cases a <;> cases b <;> first | exact .inl ⟨_, _, rfl, rfl⟩ | exact .inr rfl
def cmpT : CmpO → Tr → Tr → R Bool
  | .eq, a, b => eqT a b
  | .ne, a, b => (eqT a b).bind fun r => .ok (!r)
  | .lt, a, b => ltT a b
  | .le, a, b => leT a b
  | .gt, a, b => gtT a b
  | .ge, a, b => geT a b
  | .is, a, b => isT a b
  | .isnot, a, b => (isT a b).bind fun r => .ok (!r)
  | .inn, a, b => innT a b
  | .notin, a, b => (innT a b).bind fun r => .ok (!r)

/-- an item by a whole number, from behind too -/
def at' {α : Type} (xs : List α) (i : Int) : Option α :=
  if 0 ≤ i then xs[i.toNat]? else if -(xs.length : Int) ≤ i then xs[(i + xs.length).toNat]? else none
def ofO {α : Type} : Option α → R α
  | some a => .ok a
  | none => .no
def idxT : Tr → Tr → R Tr
  | .lst ts, .int i => ofO (at' ts i)
  | .tup ts, .int i => ofO (at' ts i)
  | .scr ns, .int i => ofO ((at' ns i).map Tr.int)
  | _, _ => .no
def sIx (n d : Nat) : Option Int → Nat
  | none => d
  | some v => if v < 0 then (max (v + n) 0).toNat else min v.toNat n
def cut {α : Type} (xs : List α) (lo hi : Option Int) : List α :=
  let i := sIx xs.length 0 lo
  (xs.drop i).take (sIx xs.length xs.length hi - i)
def slcT : Tr → Option Int → Option Int → R Tr
  | .lst ts, lo, hi => .ok (.lst (cut ts lo hi))
  | .tup ts, lo, hi => .ok (.tup (cut ts lo hi))
  | _, _, _ => .no
/-- every k-th item -/
def stepL {α : Type} (k : Nat) (l : List α) : List α := (List.range ((l.length + k - 1) / k)).filterMap fun j => l[k * j]?
def slkT (k : Nat) : Tr → Option Int → Option Int → R Tr
  | .lst ts, lo, hi => .ok (.lst (stepL k (cut ts lo hi)))
  | _, _, _ => .no
def revT : Tr → R Tr
  | .lst ts => .ok (.lst ts.reverse)
  | .tup ts => .ok (.tup ts.reverse)
  | _ => .no

/-! ### the calls of built-ins -/
inductive Ty where | int | bool | str | list | tuple
  deriving DecidableEq
inductive Bi where
  | len | int | abs | max2 | min2 | maxl | minl | sum | all | any | list | tuple | sorted | isi (t : Ty) | divmod | repr | gcd | lcm
  deriving DecidableEq

def isiT : Ty → Tr → Option Bool
  | .int, .int _ | .int, .bl _ | .bool, .bl _ | .str, .str _ | .list, .lst _ | .tuple, .tup _ => some true
  | _, .scr _ => none
  | _, _ => some false

/-- all can be compared with all, all are tuples with an item or none is a tuple or None -/
def isTup1 : Tr → Bool
  | .tup (_ :: _) => true
  | _ => false
def noTup : Tr → Bool
  | .tup _ | .non => false
  | _ => true
def isTup0 : Tr → Bool
  | .tup _ => true
  | _ => false
/-- the first is an empty tuple, all are tuples -/
def tups0 : List Tr → Bool
  | .tup [] :: ts => ts.all isTup0
  | _ => false
def srtOk (ts : List Tr) : Bool := (ts.all fun a => ts.all fun b => alk a b) && (ts.all isTup1 || ts.all noTup || tups0 ts) && ts.all sh
def srtT (ts : List Tr) : List Tr := ts.mergeSort fun a b => !ltv b a
def notLst : Tr → Bool
  | .lst _ => false
  | _ => true
def extOk (ts : List Tr) : Bool := (ts.all fun a => ts.all fun b => alk a b) && ts.all notNon && ts.all sh && ts.all notLst
def minT (x : Tr) (xs : List Tr) : Tr := xs.foldl (fun a y => if ltv y a then y else a) x
def maxT (x : Tr) (xs : List Tr) : Tr := xs.foldl (fun a y => if ltv a y then y else a) x

/-- its repr is told -/
def repOk (t : Tr) : Bool := sh t && (toPy t).showable && decide ((toPy t).shown.length ≤ SZ)
def biT : Bi → List Tr → R Tr
  | .repr, [.lst ts] => if repOk (.lst ts) then .ok (.str (toPy (.lst ts)).shown) else .no
  | .repr, [.tup ts] => if repOk (.tup ts) then .ok (.str (toPy (.tup ts)).shown) else .no
  | .len, [.lst ts] => .ok (.int ts.length)
  | .len, [.tup ts] => .ok (.int ts.length)
  | .len, [.scr ns] => .ok (.int ns.length)
  | .len, [.str s] => if s.length ≤ SZ then .ok (.int s.length) else .no
  | .int, [.int i] => .ok (.int i)
  | .int, [.bl b] => .ok (.int (if b then 1 else 0))
  | .abs, [.int i] => .ok (.int (if i < 0 then -i else i))
  | .max2, [.int i, .int j] => .ok (.int (if j > i then j else i))
  | .min2, [.int i, .int j] => .ok (.int (if j < i then j else i))
  | .maxl, [.lst (t :: ts)] => if extOk (t :: ts) then .ok (maxT t ts) else .no
  | .minl, [.lst (t :: ts)] => if extOk (t :: ts) then .ok (minT t ts) else .no
  | .maxl, [.tup (t :: ts)] => if extOk (t :: ts) then .ok (maxT t ts) else .no
  | .minl, [.tup (t :: ts)] => if extOk (t :: ts) then .ok (minT t ts) else .no
  | .sum, [.lst ts] => (ofO (intsO ts)).bind fun ns => .ok (.int ns.sum)
  | .sum, [.tup ts] => (ofO (intsO ts)).bind fun ns => .ok (.int ns.sum)
  | .all, [.lst ts] => (ofO (blsO ts)).bind fun bs => .ok (.bl (bs.all id))
  | .any, [.lst ts] => (ofO (blsO ts)).bind fun bs => .ok (.bl (bs.any id))
  | .list, [.lst ts] => .ok (.lst ts)
  | .list, [.tup ts] => .ok (.lst ts)
  | .tuple, [.lst ts] => .ok (.tup ts)
  | .tuple, [.tup ts] => .ok (.tup ts)
  | .sorted, [.lst ts] => if srtOk ts then .ok (.lst (srtT ts)) else .no
  | .isi t, [x] => (ofO (isiT t x)).bind fun b => .ok (.bl b)
  | .gcd, [.int i, .int j] => .ok (.int (Nat.gcd i.natAbs j.natAbs : Nat))
  | .lcm, [.int i, .int j] => if decide (i.natAbs < 18446744073709551616) && decide (j.natAbs < 18446744073709551616) then .ok (.int (Nat.lcm i.natAbs j.natAbs : Nat)) else .no
  | .divmod, [.int i, .int j] => if 0 < j && decide (j < 1073741824) then .ok (.tup [.int (i / j), .int (i % j)]) else .no
  | _, _ => .no

/-! ### the syntax -/
inductive Pat where
  | var (i : Nat)
  | tup (ps : List Pat)

mutual
inductive Ex where
  | int (i : Int) | bl (b : Bool) | non | str (s : Str)
  | var (i : Nat) | gl (i : Nat)
  /-- the same, and it is told that no list is in the value -/
  | im (e : Ex)
  /-- a new list of which no item holds a list -/
  | ims (e : Ex)
  | bin (o : BinO) (a b : Ex) | neg (a : Ex) | not (a : Ex)
  | cmp (o : CmpO) (a b : Ex) | chain (o o' : CmpO) (a b c : Ex)
  | and (a b : Ex) | or (a b : Ex) | ite (c a b : Ex)
  | tup (es : Exs) | lst (es : Exs)
  | idx (a i : Ex) | slc (a : Ex) (lo hi : Ex) | rev (a : Ex)
  /-- a[lo:hi:k] of a list -/
  | slk (k : Nat) (a lo hi : Ex)
  | call (f : Nat) (es : Exs)
  /-- the same, of a def that hands back new lists alone -/
  | cald (f : Nat) (es : Exs) | bi (b : Bi) (es : Exs) | isi (t : Ty) (a : Ex)
  /-- list(range(..)) -/
  | lrg1 (a : Ex) | lrg2 (a b : Ex)
  /-- xs.index(b), xs the list of a slot -/
  | ind (i : Nat) (b : Ex)
  | comp (p : Pat) (it : It) (c : Ex) (e : Ex)
  | comp2 (p : Pat) (it : It) (q : Pat) (it2 : It) (c : Ex) (e : Ex)
  /-- no part of a slice; no test -/
  | nil
inductive Exs where
  | nil | cons (e : Ex) (es : Exs)
inductive It where
  | of (e : Ex) | rng1 (a : Ex) | rng2 (a b : Ex) | enum (e : Ex) | zip (a b : Ex)
end

/-- a test on the exception that a suite holds: isinstance(e, y), not, and, or -/
inductive Hb where
  | isi (y : Str) | not (a : Hb) | and (a b : Hb) | or (a b : Hb)
/-- what a suite hands back -/
inductive Hv where
  | str (s : Str) | mul (s : Str) (b : Hb) | pick (s t : Str) (b : Hb) | tst (b : Hb)
def Hb.val (f : Str → Option Bool) : Hb → Option Bool
  | .isi y => f y
  | .not a => (a.val f).map (!·)
  | .and a b => match a.val f with
    | some true => b.val f
    | o => o
  | .or a b => match a.val f with
    | some false => b.val f
    | o => o
def Hv.val (f : Str → Option Bool) : Hv → Option Tr
  | .str s => some (.str s)
  | .mul s b => (b.val f).map fun t => .str (if t then s else Str.empty)
  | .pick s t b => (b.val f).map fun k => .str (if k then t else s)
  | .tst b => (b.val f).map .bl
/-- a clause: the class that it names, the slot of the name that it binds, what it hands back -/
structure Hd where
  cls : Str
  nm : Option Nat
  val : Hv
mutual
inductive St where
  | set (i : Nat) (e : Ex) | setp (p : Pat) (e : Ex) | par (i j : Nat) (a b : Ex) | seti (i : Nat) (k e : Ex)
  | aug (i : Nat) (o : BinO) (e : Ex) | app (i : Nat) (e : Ex)
  | ife (c : Ex) (a b : Sts) | for (fl : List Nat) (p : Pat) (it : It) (b : Sts) | whl (fl : List Nat) (c : Ex) (b : Sts)
  | ret (e : Ex) | retn | brk | cnt | pass | expr (e : Ex)
  /-- raise an exception of the class so named -/
  | rai (x : Str)
  /-- try: b, except .. return ..; by class: what is handed back, or nothing if the exception passes -/
  | trx (hs : List Hd) (tbl : List (Str × Option Tr)) (b : Sts)
inductive Sts where
  | nil | cons (s : St) (r : Sts)
  /-- the slot gets a new value; tests ask it, each of which may end the def with False; then it is changed in place (behind a test, if there is one) and never read again -/
  | kil (i : Nat) (e : Ex) (gs : List Ex) (d : Option Ex) (ks : List (List Nat × Ex)) (r : Sts)
end

/-! ### what they do -/
structure Ctx where
  cal : Nat → List Tr → R Tr
  gl : List Tr
  fuel : Nat

mutual
def bindP : Pat → Tr → Env → R Env
  | .var i, t, ρ => .ok (ρ.set i (some t))
  | .tup ps, .tup ts, ρ => bindPs ps ts ρ
  | .tup ps, .lst ts, ρ => bindPs ps ts ρ
  | .tup _, _, _ => .no
def bindPs : List Pat → List Tr → Env → R Env
  | [], [], ρ => .ok ρ
  | p :: ps, t :: ts, ρ => (bindP p t ρ).bind fun ρ' => bindPs ps ts ρ'
  | _, _, _ => .no
end
mutual
def Pat.slots : Pat → List Nat
  | .var i => [i]
  | .tup ps => slotsL ps
def slotsL : List Pat → List Nat
  | [] => []
  | p :: ps => p.slots ++ slotsL ps
end
def wipeE (ρ : Env) : List Nat → Env
  | [] => ρ
  | v :: vs => (wipeE ρ vs).set v none

/-- what raises within a comprehension is not told -/
def R.nox {α : Type} : R α → R α
  | .ok a => .ok a
  | _ => .no
@[simp] theorem R.ok_nox {α : Type} (a : α) : (R.ok a).nox = .ok a := no_rfl rfl
@[simp] theorem R.no_nox {α : Type} : (R.no : R α).nox = .no := no_rfl rfl
def compL (f : Tr → R (Option Tr)) : List Tr → R (List Tr)
  | [] => .ok []
  | x :: xs => (f x).bind fun o => (compL f xs).bind fun r => .ok (match o with
    | some y => y :: r
    | none => r)
def compLL (f : Tr → R (List Tr)) : List Tr → R (List Tr)
  | [] => .ok []
  | x :: xs => (f x).bind fun o => (compLL f xs).bind fun r => .ok (o ++ r)
def lsz (ts : List Tr) : R Tr := if ts.length ≤ SZ then .ok (.lst ts) else .no

def rngL (a b : Int) : List Tr := (List.range (b - a).toNat).map fun i => Tr.int (a + (i : Nat))
def enumL (ts : List Tr) : List Tr := (ts.zipIdx).map fun p => Tr.tup [.int (p.2 : Nat), p.1]
def zipL (ts us : List Tr) : List Tr := (ts.zip us).map fun p => Tr.tup [p.1, p.2]
def itemsT : Tr → R (List Tr)
  | .lst ts => .ok ts
  | .tup ts => .ok ts
  | _ => .no

def negT : Tr → R Tr
  | .int i => .ok (.int (-i))
  | _ => .no
def intO : Tr → R (Option Int)
  | .int i => .ok (some i)
  | _ => .no
def rngT1 : Tr → R (List Tr)
  | .int i => if smallOk i then .ok (rngL 0 i) else .no
  | _ => .no
def rngT2 : Tr → Tr → R (List Tr)
  | .int i, .int j => if smallOk i && smallOk j then .ok (rngL i j) else .no
  | _, _ => .no
def enumT : Tr → R (List Tr)
  | .lst ts => .ok (enumL ts)
  | _ => .no
def zipT : Tr → Tr → R (List Tr)
  | .lst ts, .lst us => .ok (zipL ts us)
  | .tup ts, .tup us => .ok (zipL ts us)
  | _, _ => .no

def lstT : Tr → R (List Tr)
  | .lst ts => .ok ts
  | _ => .no
/-- the first place of an equal item -/
def indL (ts : List Tr) (y : Tr) : R Tr := if sh y && sh (.lst ts) then ofO ((ts.findIdx? fun z => eqv z y).map fun j => Tr.int (j : Nat)) else .no
/-- a test, by truth; none: yes -/
def tstT : Ex → R Tr → R Bool
  | .nil, _ => .ok true
  | _, r => r.bind tru
def parT : Ex → R Tr → R (Option Int)
  | .nil, _ => .ok none
  | _, r => r.bind intO

mutual
def evE (c : Ctx) : Ex → Env → R Tr
  | .int i, _ => .ok (.int i)
  | .bl b, _ => .ok (.bl b)
  | .non, _ => .ok .non
  | .str s, _ => .ok (.str s)
  | .var i, ρ => ofO (ρ[i]?.getD none)
  | .gl i, _ => ofO c.gl[i]?
  | .im e, ρ => (evE c e ρ).bind fun t => if im t then .ok t else .no
  | .ims e, ρ => (evE c e ρ).bind fun t => if imsT t then .ok t else .no
  | .bin o a b, ρ => (evE c a ρ).bind fun x => (evE c b ρ).bind fun y => binT o x y
  | .neg a, ρ => (evE c a ρ).bind negT
  | .not a, ρ => (evE c a ρ).bind fun x => (tru x).bind fun t => .ok (.bl (!t))
  | .cmp o a b, ρ => (evE c a ρ).bind fun x => (evE c b ρ).bind fun y => (cmpT o x y).bind fun r => .ok (.bl r)
  | .chain o o' a b d, ρ => (evE c a ρ).bind fun x => (evE c b ρ).bind fun y => (cmpT o x y).bind fun r =>
      if r then (evE c d ρ).bind fun z => (cmpT o' y z).bind fun r' => .ok (.bl r') else .ok (.bl false)
  | .and a b, ρ => (evE c a ρ).bind fun x => (tru x).bind fun t => if t then evE c b ρ else .ok x
  | .or a b, ρ => (evE c a ρ).bind fun x => (tru x).bind fun t => if t then .ok x else evE c b ρ
  | .ite d a b, ρ => (evE c d ρ).bind fun x => (tru x).bind fun t => if t then evE c a ρ else evE c b ρ
  | .tup es, ρ => (evEs c es ρ).bind fun ts => if ts.length ≤ SZ then .ok (.tup ts) else .no
  | .lst es, ρ => (evEs c es ρ).bind fun ts => lsz ts
  | .idx a i, ρ => (evE c a ρ).bind fun x => (evE c i ρ).bind fun y => idxT x y
  | .slc a lo hi, ρ => (evE c a ρ).bind fun x => (parT lo (evE c lo ρ)).bind fun l => (parT hi (evE c hi ρ)).bind fun h => slcT x l h
  | .slk k a lo hi, ρ => (evE c a ρ).bind fun x => (parT lo (evE c lo ρ)).bind fun l => (parT hi (evE c hi ρ)).bind fun h => slkT k x l h
  | .rev a, ρ => (evE c a ρ).bind revT
  | .call f es, ρ => (evEs c es ρ).bind fun ts => c.cal f ts
  | .cald f es, ρ => (evEs c es ρ).bind fun ts => c.cal f ts
  | .bi b es, ρ => (evEs c es ρ).bind fun ts => biT b ts
  | .isi t a, ρ => (evE c a ρ).bind fun x => biT (.isi t) [x]
  | .lrg1 a, ρ => (evE c a ρ).bind fun x => (rngT1 x).bind lsz
  | .lrg2 a b, ρ => (evE c a ρ).bind fun x => (evE c b ρ).bind fun y => (rngT2 x y).bind lsz
  | .ind i b, ρ => (ofO (ρ[i]?.getD none)).bind fun x => (lstT x).bind fun ts => (evE c b ρ).bind fun y => indL ts y
  | .comp p it d e, ρ => (evI c it ρ).bind fun xs =>
      (compL (fun x => ((bindP p x (wipeE ρ p.slots)).bind fun ρ' => (tstT d (evE c d ρ')).bind fun t =>
        if t then (evE c e ρ').bind fun y => .ok (some y) else .ok none).nox) xs).bind lsz
  | .comp2 p it q it2 d e, ρ => (evI c it ρ).bind fun xs =>
      (compLL (fun x => ((bindP p x (wipeE ρ (p.slots ++ q.slots))).bind fun ρ1 => (evI c it2 ρ1).bind fun ys =>
        compL (fun y => ((bindP q y (wipeE ρ1 q.slots)).bind fun ρ' => (tstT d (evE c d ρ')).bind fun t =>
          if t then (evE c e ρ').bind fun z => .ok (some z) else .ok none).nox) ys).nox) xs).bind lsz
  | .nil, _ => .no
def evEs (c : Ctx) : Exs → Env → R (List Tr)
  | .nil, _ => .ok []
  | .cons e es, ρ => (evE c e ρ).bind fun t => (evEs c es ρ).bind fun ts => .ok (t :: ts)
def evI (c : Ctx) : It → Env → R (List Tr)
  | .of e, ρ => (evE c e ρ).bind itemsT
  | .rng1 a, ρ => (evE c a ρ).bind rngT1
  | .rng2 a b, ρ => (evE c a ρ).bind fun x => (evE c b ρ).bind fun y => rngT2 x y
  | .enum e, ρ => (evE c e ρ).bind enumT
  | .zip a b, ρ => (evE c a ρ).bind fun x => (evE c b ρ).bind fun y => zipT x y
end

def evC (c : Ctx) (d : Ex) (ρ : Env) : R Bool := tstT d (evE c d ρ)
def evO (c : Ctx) (d : Ex) (ρ : Env) : R (Option Int) := parT d (evE c d ρ)

/-- how a statement ends -/
inductive O where
  | nx (ρ : Env) | rt (t : Tr) | bk (ρ : Env) | ct (ρ : Env) | ex (c : Str) (ρ : Env) | no

def R.out {α : Type} : R α → Env → (α → O) → O
  | .ok a, _, f => f a
  | .ex c, ρ, _ => .ex c ρ
  | .no, _, _ => .no
@[simp] theorem R.ok_out {α : Type} (a : α) (ρ : Env) (f : α → O) : (R.ok a).out ρ f = f a := no_rfl rfl
@[simp] theorem R.ex_out {α : Type} (c : Str) (ρ : Env) (f : α → O) : (R.ex c : R α).out ρ f = .ex c ρ := no_rfl rfl
@[simp] theorem R.no_out {α : Type} (ρ : Env) (f : α → O) : (R.no : R α).out ρ f = .no := no_rfl rfl
def O.andThen : O → (Env → O) → O
  | .nx ρ, f => f ρ
  | o, _ => o
@[simp] theorem O.nx_andThen (ρ : Env) (f : Env → O) : (O.nx ρ).andThen f = f ρ := no_rfl rfl
@[simp] theorem O.rt_andThen (t : Tr) (f : Env → O) : (O.rt t).andThen f = .rt t := no_rfl rfl
@[simp] theorem O.ex_andThen (c : Str) (ρ : Env) (f : Env → O) : (O.ex c ρ).andThen f = .ex c ρ := no_rfl rfl
@[simp] theorem O.no_andThen (f : Env → O) : (O.no).andThen f = .no := no_rfl rfl
@[simp] theorem O.bk_andThen (ρ : Env) (f : Env → O) : (O.bk ρ).andThen f = .bk ρ := no_rfl rfl
@[simp] theorem O.ct_andThen (ρ : Env) (f : Env → O) : (O.ct ρ).andThen f = .ct ρ := no_rfl rfl

/-- what an except clause makes of an end -/
def nmOk (hs : List Hd) (ρ : Env) : Bool := hs.all fun h => match h.nm with
  | some i => decide (i < ρ.length)
  | none => true
def caughtO (hs : List Hd) (tbl : List (Str × Option Tr)) : O → O
  | .ex x ρ => if nmOk hs ρ then (match tbl.lookup x with
    | some (some t) => .rt t
    | some none => .ex x ρ
    | none => .no) else .no
  | o => o
/-- the turns of a for -/
def forL (f : Tr → Env → O) : List Tr → Env → O
  | [], ρ => .nx ρ
  | x :: xs, ρ => match f x ρ with
    | .nx ρ' => forL f xs ρ'
    | .ct ρ' => forL f xs ρ'
    | .bk ρ' => .nx ρ'
    | o => o
/-- the turns of a while, at most so many -/
def whlL (t : Env → R Bool) (f : Env → O) : Nat → Env → O
  | 0, _ => .no
  | n + 1, ρ => (t ρ).out ρ fun b => if b then (match f ρ with
    | .nx ρ' => whlL t f n ρ'
    | .ct ρ' => whlL t f n ρ'
    | .bk ρ' => .nx ρ'
    | o => o) else .nx ρ

def augT : BinO → Tr → Tr → R Tr
  | .add, .int a, .int b => .ok (.int (a + b))
  | .sub, .int a, .int b => .ok (.int (a - b))
  | _, _, _ => .no
def setAt (ts : List Tr) (i : Int) (t : Tr) : Option (List Tr) :=
  if 0 ≤ i then (if i < ts.length then some (ts.set i.toNat t) else none)
  else if -(ts.length : Int) ≤ i then some (ts.set (i + ts.length).toNat t) else none

/-- what lies at the end of a path, the last step first -/
def childT : Tr → Nat → Option Tr
  | .lst ts, n => ts[n]?
  | .tup ts, n => ts[n]?
  | _, _ => none
def pathT (t : Tr) : List Nat → Option Tr
  | [] => some t
  | n :: p => (pathT t p).bind fun u => childT u n
/-- there is such a slot -/
def inR : Option (Option Tr) → O → O
  | some _, o => o
  | none, _ => .no
def guardO (c : Ctx) : List Ex → Env → O → O
  | [], _, o => o
  | g :: gs, ρ, o => (evC c g ρ).out ρ fun b => if b then .rt (.bl false) else guardO c gs ρ o
def killO (c : Ctx) (t : Tr) (m : Nat) : List (List Nat × Ex) → Env → O → O
  | [], _, o => o
  | x :: ks, ρ, o => match pathT t x.1 with
    | some (.lst ts) => if ts.length + m < SZ then (evE c x.2 ρ).out ρ fun _ => killO c t m ks ρ o else .no
    | _ => .no
def killD (c : Ctx) (t : Tr) (d : Option Ex) (ks : List (List Nat × Ex)) (ρ1 ρ2 : Env) (o : O) : O := match d with
  | none => killO c t ks.length ks ρ2 o
  | some d => (evC c d ρ1).out ρ1 fun b => if b then killO c t ks.length ks ρ2 o else o

mutual
def exec (c : Ctx) : St → Env → O
  | .set i e, ρ => (evE c e ρ).out ρ fun t => .nx (ρ.set i (some t))
  | .setp p e, ρ => (evE c e ρ).out ρ fun t => (bindP p t ρ).out ρ fun ρ' => .nx ρ'
  | .par i j a b, ρ => (evE c a ρ).out ρ fun x => (evE c b ρ).out ρ fun y => .nx ((ρ.set i (some x)).set j (some y))
  | .seti i k e, ρ => (evE c e ρ).out ρ fun t => match ρ[i]?.getD none with
    | some (.lst ts) => (evE c k ρ).out ρ fun n => match n with
      | .int n => (match setAt ts n t with
        | some us => .nx (ρ.set i (some (.lst us)))
        | none => .no)
      | _ => .no
    | _ => .no
  | .aug i o e, ρ => match ρ[i]?.getD none with
    | some x => (evE c e ρ).out ρ fun t => (augT o x t).out ρ fun u => .nx (ρ.set i (some u))
    | none => .no
  | .app i e, ρ => match ρ[i]?.getD none with
    | some (.lst ts) => (evE c e ρ).out ρ fun t => if ts.length < SZ then .nx (ρ.set i (some (.lst (ts ++ [t])))) else .no
    | _ => .no
  | .ife d a b, ρ => (evC c d ρ).out ρ fun t => if t then execs c a ρ else execs c b ρ
  | .for _ p it b, ρ => (evI c it ρ).out ρ fun xs => forL (fun x ρ' => (bindP p x ρ').out ρ' fun ρ2 => execs c b ρ2) xs ρ
  | .whl _ d b, ρ => whlL (fun ρ' => evC c d ρ') (fun ρ' => execs c b ρ') c.fuel ρ
  | .ret e, ρ => (evE c e ρ).out ρ .rt
  | .retn, _ => .rt .non
  | .brk, ρ => .bk ρ
  | .cnt, ρ => .ct ρ
  | .pass, ρ => .nx ρ
  | .expr e, ρ => (evE c e ρ).out ρ fun _ => .nx ρ
  | .rai x, ρ => .ex x ρ
  | .trx hs tbl b, ρ => caughtO hs tbl (execs c b ρ)
def execs (c : Ctx) : Sts → Env → O
  | .nil, ρ => .nx ρ
  | .cons s r, ρ => (exec c s ρ).andThen fun ρ' => execs c r ρ'
  | .kil i e gs d ks r, ρ => inR ρ[i]? ((evE c e ρ).out ρ fun t => guardO c gs (ρ.set i (some t)) (killD c t d ks (ρ.set i (some t)) (ρ.set i none) (execs c r (ρ.set i none))))
end

/-! ### defs -/
/-- a def: its name, how many parameters, the names of its slots (parameters first), its body; fr: it hands back a new list of its own; dfr: all lists in what it hands back are new -/
structure Fn where
  name : Str
  np : Nat
  N : List Str
  body : Sts
  fr : Bool := false
  dfr : Bool := false

def startE (n : Nat) (ts : List Tr) : Env := ts.map some ++ List.replicate (n - ts.length) none
def runF (fs : List Fn) (gl : List Tr) (fuel : Nat) : Nat → Nat → List Tr → R Tr
  | 0, _, _ => .no
  | k + 1, f, ts => match fs[f]? with
    | none => .no
    | some d => if ts.length = d.np then (match execs ⟨runF fs gl fuel k, gl, fuel⟩ d.body (startE d.N.length ts) with
      | .nx _ => .ok .non
      | .rt t => .ok t
      | .ex c _ => .ex c
      | _ => .no) else .no
end Jr

/-! Plain: how the evaluator runs, rule by rule. -/
namespace Jr.P
open PySem Jr
theorem evE_int {c : Ctx} {i} {ρ : Env} : evE c (.int i) ρ = (.ok (.int i)) := no_rfl rfl
theorem evE_bl {c : Ctx} {b} {ρ : Env} : evE c (.bl b) ρ = (.ok (.bl b)) := no_rfl rfl
theorem evE_non {c : Ctx}  {ρ : Env} : evE c (.non ) ρ = (.ok .non) := no_rfl rfl
theorem evE_str {c : Ctx} {s} {ρ : Env} : evE c (.str s) ρ = (.ok (.str s)) := no_rfl rfl
theorem evE_var {c : Ctx} {i} {ρ : Env} : evE c (.var i) ρ = (ofO (ρ[i]?.getD none)) := no_rfl rfl
theorem evE_gl {c : Ctx} {i} {ρ : Env} : evE c (.gl i) ρ = (ofO c.gl[i]?) := no_rfl rfl
theorem evE_ims {c : Ctx} {e} {ρ : Env} : evE c (.ims e) ρ = ((evE c e ρ).bind fun t => if imsT t then .ok t else .no) := no_rfl rfl
theorem evE_im {c : Ctx} {e} {ρ : Env} : evE c (.im e) ρ = ((evE c e ρ).bind fun t => if im t then .ok t else .no) := no_rfl rfl
theorem evE_bin {c : Ctx} {o} {a} {b} {ρ : Env} : evE c (.bin o a b) ρ = ((evE c a ρ).bind fun x => (evE c b ρ).bind fun y => binT o x y) := no_rfl rfl
theorem evE_neg {c : Ctx} {a} {ρ : Env} : evE c (.neg a) ρ = ((evE c a ρ).bind negT) := no_rfl rfl
theorem evE_not {c : Ctx} {a} {ρ : Env} : evE c (.not a) ρ = ((evE c a ρ).bind fun x => (tru x).bind fun t => .ok (.bl (!t))) := no_rfl rfl
theorem evE_cmp {c : Ctx} {o} {a} {b} {ρ : Env} : evE c (.cmp o a b) ρ = ((evE c a ρ).bind fun x => (evE c b ρ).bind fun y => (cmpT o x y).bind fun r => .ok (.bl r)) := no_rfl rfl
theorem evE_chain {c : Ctx} {o} {o'} {a} {b} {d} {ρ : Env} : evE c (.chain o o' a b d) ρ = ((evE c a ρ).bind fun x => (evE c b ρ).bind fun y => (cmpT o x y).bind fun r =>
      if r then (evE c d ρ).bind fun z => (cmpT o' y z).bind fun r' => .ok (.bl r') else .ok (.bl false)) := no_rfl rfl
theorem evE_and {c : Ctx} {a} {b} {ρ : Env} : evE c (.and a b) ρ = ((evE c a ρ).bind fun x => (tru x).bind fun t => if t then evE c b ρ else .ok x) := no_rfl rfl
theorem evE_or {c : Ctx} {a} {b} {ρ : Env} : evE c (.or a b) ρ = ((evE c a ρ).bind fun x => (tru x).bind fun t => if t then .ok x else evE c b ρ) := no_rfl rfl
theorem evE_ite {c : Ctx} {d} {a} {b} {ρ : Env} : evE c (.ite d a b) ρ = ((evE c d ρ).bind fun x => (tru x).bind fun t => if t then evE c a ρ else evE c b ρ) := no_rfl rfl
theorem evE_tup {c : Ctx} {es} {ρ : Env} : evE c (.tup es) ρ = ((evEs c es ρ).bind fun ts => if ts.length ≤ SZ then .ok (.tup ts) else .no) := no_rfl rfl
theorem evE_lst {c : Ctx} {es} {ρ : Env} : evE c (.lst es) ρ = ((evEs c es ρ).bind fun ts => lsz ts) := no_rfl rfl
theorem evE_idx {c : Ctx} {a} {i} {ρ : Env} : evE c (.idx a i) ρ = ((evE c a ρ).bind fun x => (evE c i ρ).bind fun y => idxT x y) := no_rfl rfl
theorem evE_slk {c : Ctx} {k} {a} {lo} {hi} {ρ : Env} : evE c (.slk k a lo hi) ρ = ((evE c a ρ).bind fun x => (parT lo (evE c lo ρ)).bind fun l => (parT hi (evE c hi ρ)).bind fun h => slkT k x l h) := no_rfl rfl
theorem evE_slc {c : Ctx} {a} {lo} {hi} {ρ : Env} : evE c (.slc a lo hi) ρ = ((evE c a ρ).bind fun x => (parT lo (evE c lo ρ)).bind fun l => (parT hi (evE c hi ρ)).bind fun h => slcT x l h) := no_rfl rfl
theorem evE_rev {c : Ctx} {a} {ρ : Env} : evE c (.rev a) ρ = ((evE c a ρ).bind revT) := no_rfl rfl
theorem evE_call {c : Ctx} {f} {es} {ρ : Env} : evE c (.call f es) ρ = ((evEs c es ρ).bind fun ts => c.cal f ts) := no_rfl rfl
theorem evE_bi {c : Ctx} {b} {es} {ρ : Env} : evE c (.bi b es) ρ = ((evEs c es ρ).bind fun ts => biT b ts) := no_rfl rfl
theorem evE_isi {c : Ctx} {t} {a} {ρ : Env} : evE c (.isi t a) ρ = ((evE c a ρ).bind fun x => biT (.isi t) [x]) := no_rfl rfl
theorem evE_comp {c : Ctx} {p} {it} {d} {e} {ρ : Env} : evE c (.comp p it d e) ρ = ((evI c it ρ).bind fun xs =>
      (compL (fun x => ((bindP p x (wipeE ρ p.slots)).bind fun ρ' => (tstT d (evE c d ρ')).bind fun t =>
        if t then (evE c e ρ').bind fun y => .ok (some y) else .ok none).nox) xs).bind lsz) := no_rfl rfl
theorem evE_comp2 {c : Ctx} {p} {it} {q} {it2} {d} {e} {ρ : Env} : evE c (.comp2 p it q it2 d e) ρ = ((evI c it ρ).bind fun xs =>
      (compLL (fun x => ((bindP p x (wipeE ρ (p.slots ++ q.slots))).bind fun ρ1 => (evI c it2 ρ1).bind fun ys =>
        compL (fun y => ((bindP q y (wipeE ρ1 q.slots)).bind fun ρ' => (tstT d (evE c d ρ')).bind fun t =>
          if t then (evE c e ρ').bind fun z => .ok (some z) else .ok none).nox) ys).nox) xs).bind lsz) := no_rfl rfl
theorem evE_ind {c : Ctx} {i : Nat} {b : Ex} {ρ : Env} : evE c (.ind i b) ρ = ((ofO (ρ[i]?.getD none)).bind fun x => (lstT x).bind fun ts => (evE c b ρ).bind fun y => indL ts y) := no_rfl rfl
theorem lstT_lst {ts : List Tr} : lstT (.lst ts) = .ok ts := no_rfl rfl
theorem evE_nil {c : Ctx}  {ρ : Env} : evE c (.nil ) ρ = (.no) := no_rfl rfl
theorem evEs_nil {c : Ctx}  {ρ : Env} : evEs c (.nil ) ρ = (.ok []) := no_rfl rfl
theorem evEs_cons {c : Ctx} {e} {es} {ρ : Env} : evEs c (.cons e es) ρ = ((evE c e ρ).bind fun t => (evEs c es ρ).bind fun ts => .ok (t :: ts)) := no_rfl rfl
theorem evI_of {c : Ctx} {e} {ρ : Env} : evI c (.of e) ρ = ((evE c e ρ).bind itemsT) := no_rfl rfl
theorem evI_rng1 {c : Ctx} {a} {ρ : Env} : evI c (.rng1 a) ρ = ((evE c a ρ).bind rngT1) := no_rfl rfl
theorem evI_rng2 {c : Ctx} {a} {b} {ρ : Env} : evI c (.rng2 a b) ρ = ((evE c a ρ).bind fun x => (evE c b ρ).bind fun y => rngT2 x y) := no_rfl rfl
theorem evI_enum {c : Ctx} {e} {ρ : Env} : evI c (.enum e) ρ = ((evE c e ρ).bind enumT) := no_rfl rfl
theorem evI_zip {c : Ctx} {a} {b} {ρ : Env} : evI c (.zip a b) ρ = ((evE c a ρ).bind fun x => (evE c b ρ).bind fun y => zipT x y) := no_rfl rfl
theorem exec_set {c : Ctx} {i} {e} {ρ : Env} : exec c (.set i e) ρ = ((evE c e ρ).out ρ fun t => .nx (ρ.set i (some t))) := no_rfl rfl
theorem exec_setp {c : Ctx} {p} {e} {ρ : Env} : exec c (.setp p e) ρ = ((evE c e ρ).out ρ fun t => (bindP p t ρ).out ρ fun ρ' => .nx ρ') := no_rfl rfl
theorem exec_par {c : Ctx} {i} {j} {a} {b} {ρ : Env} : exec c (.par i j a b) ρ = ((evE c a ρ).out ρ fun x => (evE c b ρ).out ρ fun y => .nx ((ρ.set i (some x)).set j (some y))) := no_rfl rfl
theorem exec_seti {c : Ctx} {i} {k} {e} {ρ : Env} : exec c (.seti i k e) ρ = ((evE c e ρ).out ρ fun t => match ρ[i]?.getD none with
    | some (.lst ts) => (evE c k ρ).out ρ fun n => match n with
      | .int n => (match setAt ts n t with
        | some us => .nx (ρ.set i (some (.lst us)))
        | none => .no)
      | _ => .no
    | _ => .no) := no_rfl rfl
theorem exec_aug {c : Ctx} {i} {o} {e} {ρ : Env} : exec c (.aug i o e) ρ = (match ρ[i]?.getD none with
    | some x => (evE c e ρ).out ρ fun t => (augT o x t).out ρ fun u => .nx (ρ.set i (some u))
    | none => .no) := no_rfl rfl
theorem exec_app {c : Ctx} {i} {e} {ρ : Env} : exec c (.app i e) ρ = (match ρ[i]?.getD none with
    | some (.lst ts) => (evE c e ρ).out ρ fun t => if ts.length < SZ then .nx (ρ.set i (some (.lst (ts ++ [t])))) else .no
    | _ => .no) := no_rfl rfl
theorem exec_ife {c : Ctx} {d} {a} {b} {ρ : Env} : exec c (.ife d a b) ρ = ((evC c d ρ).out ρ fun t => if t then execs c a ρ else execs c b ρ) := no_rfl rfl
theorem exec_for {c : Ctx} {fl} {p} {it} {b} {ρ : Env} : exec c (.for fl p it b) ρ = ((evI c it ρ).out ρ fun xs => forL (fun x ρ' => (bindP p x ρ').out ρ' fun ρ2 => execs c b ρ2) xs ρ) := no_rfl rfl
theorem exec_whl {c : Ctx} {fl} {d} {b} {ρ : Env} : exec c (.whl fl d b) ρ = (whlL (fun ρ' => evC c d ρ') (fun ρ' => execs c b ρ') c.fuel ρ) := no_rfl rfl
theorem exec_ret {c : Ctx} {e} {ρ : Env} : exec c (.ret e) ρ = ((evE c e ρ).out ρ .rt) := no_rfl rfl
theorem exec_retn {c : Ctx}  {ρ : Env} : exec c (.retn ) ρ = (.rt .non) := no_rfl rfl
theorem exec_brk {c : Ctx}  {ρ : Env} : exec c (.brk ) ρ = (.bk ρ) := no_rfl rfl
theorem exec_cnt {c : Ctx}  {ρ : Env} : exec c (.cnt ) ρ = (.ct ρ) := no_rfl rfl
theorem exec_pass {c : Ctx}  {ρ : Env} : exec c (.pass ) ρ = (.nx ρ) := no_rfl rfl
theorem exec_expr {c : Ctx} {e} {ρ : Env} : exec c (.expr e) ρ = ((evE c e ρ).out ρ fun _ => .nx ρ) := no_rfl rfl
theorem exec_rai {c : Ctx} {x} {ρ : Env} : exec c (.rai x) ρ = (.ex x ρ) := no_rfl rfl
theorem exec_trx {c : Ctx} {hs} {tbl} {b} {ρ : Env} : exec c (.trx hs tbl b) ρ = (caughtO hs tbl (execs c b ρ)) := no_rfl rfl
theorem execs_nil {c : Ctx}  {ρ : Env} : execs c (.nil ) ρ = (.nx ρ) := no_rfl rfl
theorem execs_cons {c : Ctx} {s} {r} {ρ : Env} : execs c (.cons s r) ρ = ((exec c s ρ).andThen fun ρ' => execs c r ρ') := no_rfl rfl
theorem evC_def {c : Ctx} {d : Ex} {ρ : Env} : evC c d ρ = tstT d (evE c d ρ) := no_rfl rfl

structure Post where
  n : Env → Prop
  r : Tr → Prop
  b : Env → Prop
  c : Env → Prop
/-- how it ends -/
def wpD (P : Post) (o : O) : Prop := match o with
  | .nx ρ => P.n ρ
  | .rt t => P.r t
  | .bk ρ => P.b ρ
  | .ct ρ => P.c ρ
  | _ => False
section
variable {n b c : Env → Prop} {r : Tr → Prop} {ρ : Env} {t : Tr}
theorem wpD_nx : wpD ⟨n, r, b, c⟩ (.nx ρ) = n ρ := no_rfl rfl
theorem wpD_rt : wpD ⟨n, r, b, c⟩ (.rt t) = r t := no_rfl rfl
theorem wpD_bk : wpD ⟨n, r, b, c⟩ (.bk ρ) = b ρ := no_rfl rfl
theorem wpD_ct : wpD ⟨n, r, b, c⟩ (.ct ρ) = c ρ := no_rfl rfl
end
theorem wpD_nil {P : Post} {c : Ctx} {ρ : Env} : wpD P (execs c .nil ρ) = wpD P (.nx ρ) := no_rfl rfl
/-- what is to hold behind a statement, the rest of its block ahead -/
def laterD (P : Post) (c : Ctx) (r : Sts) : Post := ⟨fun ρ' => wpD P (execs c r ρ'), P.r, P.b, P.c⟩
theorem laterD_nx {P : Post} {c : Ctx} {r : Sts} {ρ : Env} : wpD (laterD P c r) (.nx ρ) = wpD P (execs c r ρ) := no_rfl rfl
theorem laterD_rt {P : Post} {c : Ctx} {r : Sts} {t : Tr} : wpD (laterD P c r) (.rt t) = wpD P (.rt t) := no_rfl rfl
theorem laterD_bk {P : Post} {c : Ctx} {r : Sts} {ρ : Env} : wpD (laterD P c r) (.bk ρ) = wpD P (.bk ρ) := no_rfl rfl
theorem laterD_ct {P : Post} {c : Ctx} {r : Sts} {ρ : Env} : wpD (laterD P c r) (.ct ρ) = wpD P (.ct ρ) := no_rfl rfl
theorem laterD_n {P : Post} {c : Ctx} {r : Sts} {ρ : Env} : (laterD P c r).n ρ = wpD P (execs c r ρ) := no_rfl rfl
theorem laterD_r {P : Post} {c : Ctx} {r : Sts} {t : Tr} : (laterD P c r).r t = P.r t := no_rfl rfl
theorem wpD_cons {P : Post} {c : Ctx} {s : St} {r : Sts} {ρ : Env} : wpD P (execs c (.cons s r) ρ) = wpD (laterD P c r) (exec c s ρ) := by
  rw [execs_cons]
  generalize exec c s ρ = o
  cases o <;> rfl
theorem wpD_set {P : Post} {c : Ctx} {i : Nat} {e : Ex} {r : Sts} {ρ : Env} {t : Tr} (h : evE c e ρ = .ok t) (h2 : wpD P (execs c r (ρ.set i (some t)))) : wpD P (execs c (.cons (.set i e) r) ρ) := by
  rw [wpD_cons, exec_set, h, R.ok_out]
  exact h2
theorem wpD_mono {P P' : Post} {o : O} (h : wpD P o) (hn : ∀ ρ, P.n ρ → P'.n ρ) (hr : ∀ t, P.r t → P'.r t) (hb : ∀ ρ, P.b ρ → P'.b ρ) (hc : ∀ ρ, P.c ρ → P'.c ρ) : wpD P' o := by
  cases o with
  | nx ρ => exact hn ρ h
  | rt t => exact hr t h
  | bk ρ => exact hb ρ h
  | ct ρ => exact hc ρ h
  | ex c ρ => exact h
  | no => exact h
theorem wpD_ite {P : Post} {b : Bool} {o o' : O} (h1 : b = true → wpD P o) (h2 : b = false → wpD P o') : wpD P (if b = true then o else o') := by
  cases b with
  | true => exact h1 rfl
  | false => exact h2 rfl
/-- a for: I by the turn -/
theorem wpD_forL {P : Post} {f : Tr → Env → O} {xs : List Tr} {ρ : Env} (I : Nat → Env → Prop) (h0 : I 0 ρ) (hs : ∀ i (h : i < xs.length) ρ, I i ρ → wpD ⟨I (i + 1), P.r, P.n, I (i + 1)⟩ (f xs[i] ρ)) (hn : ∀ ρ, I xs.length ρ → P.n ρ) : wpD P (forL f xs ρ) := by
  induction xs generalizing I ρ with
  | nil => exact hn ρ h0
  | cons x xs ih =>
    have h := hs 0 (Nat.zero_lt_succ _) ρ h0
    have step : ∀ ρ', I 1 ρ' → wpD P (forL f xs ρ') := fun ρ' h1 => ih (fun i => I (i + 1)) h1 (fun i hi ρ2 h2 => hs (i + 1) (Nat.succ_lt_succ hi) ρ2 h2) hn
    have h : wpD ⟨I 1, P.r, P.n, I 1⟩ (f x ρ) := h
    rw [forL]
    generalize f x ρ = o at h
    cases o with
    | nx ρ' => exact step ρ' h
    | ct ρ' => exact step ρ' h
    | bk ρ' => exact h
    | rt t => exact h
    | ex c ρ' => exact h
    | no => exact h
theorem wpD_for {P : Post} {c : Ctx} {fl : List Nat} {p : Pat} {it : It} {b : Sts} {ρ : Env} {xs : List Tr} (hx : evI c it ρ = .ok xs) (I : Nat → Env → Prop) (h0 : I 0 ρ)
    (hs : ∀ i (h : i < xs.length) ρ, I i ρ → wpD ⟨I (i + 1), P.r, P.n, I (i + 1)⟩ ((bindP p xs[i] ρ).out ρ fun ρ2 => execs c b ρ2)) (hn : ∀ ρ, I xs.length ρ → wpD P (.nx ρ)) : wpD P (exec c (.for fl p it b) ρ) := by
  rw [exec_for, hx]
  exact wpD_forL I h0 hs hn
/-- a while: V falls -/
theorem wpD_whl {P : Post} {c : Ctx} {fl : List Nat} {d : Ex} {b : Sts} {ρ : Env} (I : Nat → Env → Prop) {n : Nat} (h0 : I n ρ) (hf : n < c.fuel)
    (hs : ∀ n ρ, I n ρ → ∃ t, evC c d ρ = .ok t ∧ (t = true → wpD ⟨fun ρ' => ∃ m, m < n ∧ I m ρ', P.r, P.n, fun ρ' => ∃ m, m < n ∧ I m ρ'⟩ (execs c b ρ)) ∧ (t = false → wpD P (.nx ρ))) : wpD P (exec c (.whl fl d b) ρ) := by
  rw [exec_whl]
  generalize c.fuel = F at hf
  induction F generalizing n ρ with
  | zero => omega
  | succ F ih =>
    obtain ⟨t, ht, h1, h2⟩ := hs n ρ h0
    rw [whlL, ht, R.ok_out]
    cases t with
    | false => exact h2 rfl
    | true =>
      have h := h1 rfl
      rw [if_pos rfl]
      generalize execs c b ρ = o at h
      cases o with
      | nx ρ' =>
        obtain ⟨m, hm, hI⟩ := h
        exact ih hI (by omega)
      | ct ρ' =>
        obtain ⟨m, hm, hI⟩ := h
        exact ih hI (by omega)
      | bk ρ' => exact h
      | rt t => exact h
      | ex c ρ' => exact h
      | no => exact h
/-- a call of a def -/
theorem run_ofD {fs : List Fn} {gl : List Tr} {fuel k f : Nat} {d : Fn} {ts : List Tr} (Q : Tr → Prop) (hd : fs[f]? = some d) (hn : ts.length = d.np)
    (h : wpD ⟨fun _ => Q .non, Q, fun _ => False, fun _ => False⟩ (execs ⟨runF fs gl fuel k, gl, fuel⟩ d.body (startE d.N.length ts))) : ∃ t, runF fs gl fuel (k + 1) f ts = .ok t ∧ Q t := by
  rw [runF, hd]
  show ∃ t, (if ts.length = d.np then _ else _) = R.ok t ∧ Q t
  rw [if_pos hn]
  generalize execs ⟨runF fs gl fuel k, gl, fuel⟩ d.body (startE d.N.length ts) = o at h
  cases o with
  | nx ρ => exact ⟨_, rfl, h⟩
  | rt t => exact ⟨t, rfl, h⟩
  | bk ρ => exact h.elim
  | ct ρ => exact h.elim
  | ex c ρ => exact h.elim
  | no => exact h.elim
theorem run_eqD {fs : List Fn} {gl : List Tr} {fuel k f : Nat} {d : Fn} {ts : List Tr} {t : Tr} (hd : fs[f]? = some d) (hn : ts.length = d.np)
    (h : wpD ⟨fun _ => Tr.non = t, fun u => u = t, fun _ => False, fun _ => False⟩ (execs ⟨runF fs gl fuel k, gl, fuel⟩ d.body (startE d.N.length ts))) : runF fs gl fuel (k + 1) f ts = .ok t := by
  obtain ⟨u, h1, h2⟩ := run_ofD (fun u => u = t) hd hn h
  rw [h1, h2]


/-- the same, as a structure: nothing unfolds it -/
structure wp (P : Post) (o : O) : Prop where
  run : wpD P o
section
variable {n b c : Env → Prop} {r : Tr → Prop} {ρ : Env} {t : Tr}
theorem wp_nx : wp ⟨n, r, b, c⟩ (.nx ρ) = n ρ := propext ⟨fun h => h.1, fun h => ⟨h⟩⟩
theorem wp_rt : wp ⟨n, r, b, c⟩ (.rt t) = r t := propext ⟨fun h => h.1, fun h => ⟨h⟩⟩
theorem wp_bk : wp ⟨n, r, b, c⟩ (.bk ρ) = b ρ := propext ⟨fun h => h.1, fun h => ⟨h⟩⟩
theorem wp_ct : wp ⟨n, r, b, c⟩ (.ct ρ) = c ρ := propext ⟨fun h => h.1, fun h => ⟨h⟩⟩
end
theorem wp_nil {P : Post} {c : Ctx} {ρ : Env} : wp P (execs c .nil ρ) = wp P (.nx ρ) := no_rfl rfl
/-- what is to hold behind a statement, the rest of its block ahead -/
def later (P : Post) (c : Ctx) (r : Sts) : Post := ⟨fun ρ' => wp P (execs c r ρ'), P.r, P.b, P.c⟩
theorem later_nx {P : Post} {c : Ctx} {r : Sts} {ρ : Env} : wp (later P c r) (.nx ρ) = wp P (execs c r ρ) := propext ⟨fun h => h.1, fun h => ⟨h⟩⟩
theorem later_rt {P : Post} {c : Ctx} {r : Sts} {t : Tr} : wp (later P c r) (.rt t) = wp P (.rt t) := propext ⟨fun h => ⟨h.1⟩, fun h => ⟨h.1⟩⟩
theorem later_bk {P : Post} {c : Ctx} {r : Sts} {ρ : Env} : wp (later P c r) (.bk ρ) = wp P (.bk ρ) := propext ⟨fun h => ⟨h.1⟩, fun h => ⟨h.1⟩⟩
theorem later_ct {P : Post} {c : Ctx} {r : Sts} {ρ : Env} : wp (later P c r) (.ct ρ) = wp P (.ct ρ) := propext ⟨fun h => ⟨h.1⟩, fun h => ⟨h.1⟩⟩
theorem later_n {P : Post} {c : Ctx} {r : Sts} {ρ : Env} : (later P c r).n ρ = wp P (execs c r ρ) := no_rfl rfl
theorem later_r {P : Post} {c : Ctx} {r : Sts} {t : Tr} : (later P c r).r t = P.r t := no_rfl rfl
theorem wp_cons {P : Post} {c : Ctx} {s : St} {r : Sts} {ρ : Env} : wp P (execs c (.cons s r) ρ) = wp (later P c r) (exec c s ρ) := by
  have h : wpD P (execs c (.cons s r) ρ) = wpD (later P c r) (exec c s ρ) := by
    rw [execs_cons]
    generalize exec c s ρ = o
    cases o with
    | nx ρ' => exact propext ⟨fun h => ⟨h⟩, fun h => h.1⟩
    | _ => rfl
  exact propext ⟨fun q => ⟨h ▸ q.1⟩, fun q => ⟨h ▸ q.1⟩⟩
theorem wp_set {P : Post} {c : Ctx} {i : Nat} {e : Ex} {r : Sts} {ρ : Env} {t : Tr} (h : evE c e ρ = .ok t) (h2 : wp P (execs c r (ρ.set i (some t)))) : wp P (execs c (.cons (.set i e) r) ρ) := by
  rw [wp_cons, exec_set, h, R.ok_out, later_nx]
  exact h2
theorem wp_mono {P P' : Post} {o : O} (h : wp P o) (hn : ∀ ρ, P.n ρ → P'.n ρ) (hr : ∀ t, P.r t → P'.r t) (hb : ∀ ρ, P.b ρ → P'.b ρ) (hc : ∀ ρ, P.c ρ → P'.c ρ) : wp P' o := ⟨wpD_mono h.1 hn hr hb hc⟩
theorem wp_ite {P : Post} {b : Bool} {o o' : O} (h1 : b = true → wp P o) (h2 : b = false → wp P o') : wp P (if b = true then o else o') := ⟨wpD_ite (fun h => (h1 h).1) fun h => (h2 h).1⟩
theorem wp_for {P : Post} {c : Ctx} {fl : List Nat} {p : Pat} {it : It} {b : Sts} {ρ : Env} {xs : List Tr} (hx : evI c it ρ = .ok xs) (I : Nat → Env → Prop) (h0 : I 0 ρ)
    (hs : ∀ i (h : i < xs.length) ρ, I i ρ → wp ⟨I (i + 1), P.r, P.n, I (i + 1)⟩ ((bindP p xs[i] ρ).out ρ fun ρ2 => execs c b ρ2)) (hn : ∀ ρ, I xs.length ρ → wp P (.nx ρ)) : wp P (exec c (.for fl p it b) ρ) :=
  ⟨wpD_for hx I h0 (fun i h ρ q => (hs i h ρ q).1) fun ρ q => (hn ρ q).1⟩
theorem wp_whl {P : Post} {c : Ctx} {fl : List Nat} {d : Ex} {b : Sts} {ρ : Env} (I : Nat → Env → Prop) {n : Nat} (h0 : I n ρ) (hf : n < c.fuel)
    (hs : ∀ n ρ, I n ρ → ∃ t, evC c d ρ = .ok t ∧ (t = true → wp ⟨fun ρ' => ∃ m, m < n ∧ I m ρ', P.r, P.n, fun ρ' => ∃ m, m < n ∧ I m ρ'⟩ (execs c b ρ)) ∧ (t = false → wp P (.nx ρ))) : wp P (exec c (.whl fl d b) ρ) :=
  ⟨wpD_whl I h0 hf fun n ρ q => by
    obtain ⟨t, h1, h2, h3⟩ := hs n ρ q
    exact ⟨t, h1, fun z => (h2 z).1, fun z => (h3 z).1⟩⟩
theorem run_of {fs : List Fn} {gl : List Tr} {fuel k f : Nat} {d : Fn} {ts : List Tr} (Q : Tr → Prop) (hd : fs[f]? = some d) (hn : ts.length = d.np)
    (h : wp ⟨fun _ => Q .non, Q, fun _ => False, fun _ => False⟩ (execs ⟨runF fs gl fuel k, gl, fuel⟩ d.body (startE d.N.length ts))) : ∃ t, runF fs gl fuel (k + 1) f ts = .ok t ∧ Q t := run_ofD Q hd hn h.1
theorem run_eq {fs : List Fn} {gl : List Tr} {fuel k f : Nat} {d : Fn} {ts : List Tr} {t : Tr} (hd : fs[f]? = some d) (hn : ts.length = d.np)
    (h : wp ⟨fun _ => Tr.non = t, fun u => u = t, fun _ => False, fun _ => False⟩ (execs ⟨runF fs gl fuel k, gl, fuel⟩ d.body (startE d.N.length ts))) : runF fs gl fuel (k + 1) f ts = .ok t := run_eqD hd hn h.1

/-- a statement's end, told by M, then the rest -/
theorem wp_cutL {P : Post} {c : Ctx} {r : Sts} {o : O} (M : Env → Prop) (h1 : wp ⟨M, P.r, P.b, P.c⟩ o) (h2 : ∀ ρ', M ρ' → wp P (execs c r ρ')) : wp (later P c r) o :=
  wp_mono h1 h2 (fun _ h => h) (fun _ h => h) fun _ h => h
theorem later_r' {P : Post} {c : Ctx} {r : Sts} : (later P c r).r = P.r := no_rfl rfl
theorem later_b' {P : Post} {c : Ctx} {r : Sts} : (later P c r).b = P.b := no_rfl rfl
theorem later_c' {P : Post} {c : Ctx} {r : Sts} : (later P c r).c = P.c := no_rfl rfl
/-! ### values -/
theorem ofO_some {α : Type} {a : α} : ofO (some a) = R.ok a := no_rfl rfl
theorem bin_add {a b : Int} : binT .add (.int a) (.int b) = .ok (.int (a + b)) := no_rfl rfl
theorem bin_sub {a b : Int} : binT .sub (.int a) (.int b) = .ok (.int (a - b)) := no_rfl rfl
theorem bin_mul {a b : Int} (h : mulOk a b = true) : binT .mul (.int a) (.int b) = .ok (.int (a * b)) := if_pos h
theorem mul_r {a b : Int} (h1 : -18446744073709551616 < b) (h2 : b < 18446744073709551616) : binT .mul (.int a) (.int b) = .ok (.int (a * b)) := bin_mul (by
  unfold mulOk
  have e1 : decide (-(2 ^ 64 : Int) < b) = true := decide_eq_true (by omega)
  have e2 : decide (b < (2 ^ 64 : Int)) = true := decide_eq_true (by omega)
  rw [e1, e2]
  simp)
theorem mul_l {a b : Int} (h1 : -18446744073709551616 < a) (h2 : a < 18446744073709551616) : binT .mul (.int a) (.int b) = .ok (.int (a * b)) := bin_mul (by
  unfold mulOk
  have e1 : decide (-(2 ^ 64 : Int) < a) = true := decide_eq_true (by omega)
  have e2 : decide (a < (2 ^ 64 : Int)) = true := decide_eq_true (by omega)
  rw [e1, e2]
  simp)
theorem log2_lt {b : Int} (h0 : 0 < b) (h : b < 18446744073709551616) : b.natAbs.log2 < 9000 := by
  have h1 : b.natAbs ≠ 0 := by omega
  have h2 : b.natAbs < 2 ^ 64 := by omega
  have := (Nat.log2_lt h1).mpr h2
  omega
theorem bin_fdiv {a b : Int} (h0 : 0 < b) (h : b < 18446744073709551616) : binT .fdiv (.int a) (.int b) = .ok (.int (a / b)) := by
  show (if (0 < b && decide (b.natAbs.log2 < 9000)) = true then _ else _) = _
  rw [if_pos]
  rw [Bool.and_eq_true, decide_eq_true_eq, decide_eq_true_eq]
  exact ⟨h0, log2_lt h0 h⟩
theorem bin_mod {a b : Int} (h0 : 0 < b) : binT .mod (.int a) (.int b) = .ok (.int (a % b)) := if_pos h0
theorem pow_18 : binT .pow (.int 10) (.int 18) = .ok (.int 1000000000000000000) := no_rfl rfl
theorem if_lt_SZ {α : Type} {n : Nat} {a b : α} (h : n < 16777216) : (if n < SZ then a else b) = a := if_pos h
theorem if_le_SZ {α : Type} {n : Nat} {a b : α} (h : n ≤ 16777216) : (if n ≤ SZ then a else b) = a := if_pos h
theorem beq_dec {a b : Int} : (a == b) = decide (a = b) := by
  by_cases h : a = b
  · rw [decide_eq_true h]; exact beq_iff_eq.mpr h
  · rw [decide_eq_false h]; exact beq_false_of_ne h
theorem cmp_eq {a b : Int} : cmpT .eq (.int a) (.int b) = .ok (decide (a = b)) := by
  show R.ok (a == b) = _
  rw [beq_dec]
theorem cmp_ne {a b : Int} : cmpT .ne (.int a) (.int b) = .ok (decide (a ≠ b)) := by
  show R.ok (!(a == b)) = _
  rw [beq_dec]
  by_cases h : a = b <;> simp [h]
theorem cmp_lt {a b : Int} : cmpT .lt (.int a) (.int b) = .ok (decide (a < b)) := no_rfl rfl
theorem cmp_le {a b : Int} : cmpT .le (.int a) (.int b) = .ok (decide (a ≤ b)) := no_rfl rfl
theorem cmp_gt {a b : Int} : cmpT .gt (.int a) (.int b) = .ok (decide (b < a)) := no_rfl rfl
theorem cmp_ge {a b : Int} : cmpT .ge (.int a) (.int b) = .ok (decide (b ≤ a)) := no_rfl rfl
theorem tru_bl {b : Bool} : tru (.bl b) = .ok b := no_rfl rfl
theorem tru_int {i : Int} : tru (.int i) = .ok (i != 0) := no_rfl rfl
theorem neg_int {i : Int} : negT (.int i) = .ok (.int (-i)) := no_rfl rfl
theorem int_int {i : Int} : biT .int [.int i] = .ok (.int i) := no_rfl rfl
theorem int_bl {b : Bool} : biT .int [.bl b] = .ok (.int (if b then 1 else 0)) := no_rfl rfl
theorem abs_int {i : Int} : biT .abs [.int i] = .ok (.int (if i < 0 then -i else i)) := no_rfl rfl
theorem len_lst {ts : List Tr} : biT .len [.lst ts] = .ok (.int ts.length) := no_rfl rfl
theorem len_tup {ts : List Tr} : biT .len [.tup ts] = .ok (.int ts.length) := no_rfl rfl
theorem len_scr {ns : List Int} : biT .len [.scr ns] = .ok (.int ns.length) := no_rfl rfl
theorem max_int {i j : Int} : biT .max2 [.int i, .int j] = .ok (.int (if j > i then j else i)) := no_rfl rfl
theorem min_int {i j : Int} : biT .min2 [.int i, .int j] = .ok (.int (if j < i then j else i)) := no_rfl rfl
theorem gcd_int {i j : Int} : biT .gcd [.int i, .int j] = .ok (.int (Nat.gcd i.natAbs j.natAbs : Nat)) := no_rfl rfl
theorem lcm_int {i j : Int} (h1 : i.natAbs < 18446744073709551616) (h2 : j.natAbs < 18446744073709551616) : biT .lcm [.int i, .int j] = .ok (.int (Nat.lcm i.natAbs j.natAbs : Nat)) := by
  show (if (decide (i.natAbs < 18446744073709551616) && decide (j.natAbs < 18446744073709551616)) = true then R.ok (Tr.int (Nat.lcm i.natAbs j.natAbs : Nat)) else .no) = _
  rw [decide_eq_true h1, decide_eq_true h2]
  rfl
theorem bindP_lst {ps : List Pat} {ts : List Tr} {ρ : Env} : bindP (.tup ps) (.lst ts) ρ = bindPs ps ts ρ := no_rfl rfl
theorem list_lst {ts : List Tr} : biT .list [.lst ts] = .ok (.lst ts) := no_rfl rfl
theorem list_tup {ts : List Tr} : biT .list [.tup ts] = .ok (.lst ts) := no_rfl rfl
theorem tuple_lst {ts : List Tr} : biT .tuple [.lst ts] = .ok (.tup ts) := no_rfl rfl
theorem lsz_le {ts : List Tr} (h : ts.length ≤ 16777216) : lsz ts = .ok (.lst ts) := if_pos h
theorem lsz_0 : lsz [] = .ok (.lst []) := no_rfl rfl
theorem lsz_1 {a0 : Tr} : lsz [a0] = .ok (.lst [a0]) := no_rfl rfl
theorem lsz_2 {a0 a1 : Tr} : lsz [a0, a1] = .ok (.lst [a0, a1]) := no_rfl rfl
theorem lsz_3 {a0 a1 a2 : Tr} : lsz [a0, a1, a2] = .ok (.lst [a0, a1, a2]) := no_rfl rfl
theorem lsz_4 {a0 a1 a2 a3 : Tr} : lsz [a0, a1, a2, a3] = .ok (.lst [a0, a1, a2, a3]) := no_rfl rfl
theorem lsz_5 {a0 a1 a2 a3 a4 : Tr} : lsz [a0, a1, a2, a3, a4] = .ok (.lst [a0, a1, a2, a3, a4]) := no_rfl rfl
theorem lsz_6 {a0 a1 a2 a3 a4 a5 : Tr} : lsz [a0, a1, a2, a3, a4, a5] = .ok (.lst [a0, a1, a2, a3, a4, a5]) := no_rfl rfl
theorem lsz_7 {a0 a1 a2 a3 a4 a5 a6 : Tr} : lsz [a0, a1, a2, a3, a4, a5, a6] = .ok (.lst [a0, a1, a2, a3, a4, a5, a6]) := no_rfl rfl
theorem lsz_8 {a0 a1 a2 a3 a4 a5 a6 a7 : Tr} : lsz [a0, a1, a2, a3, a4, a5, a6, a7] = .ok (.lst [a0, a1, a2, a3, a4, a5, a6, a7]) := no_rfl rfl
/-- whole numbers as a list's items -/
def ints' (xs : List Int) : List Tr := xs.map Tr.int
theorem ints'_length {xs : List Int} : (ints' xs).length = xs.length := List.length_map _
theorem ints'_append {xs ys : List Int} : ints' xs ++ ints' ys = ints' (xs ++ ys) := (List.map_append ..).symm
theorem ints'_snoc {xs : List Int} {x : Int} : ints' xs ++ [.int x] = ints' (xs ++ [x]) := ints'_append (ys := [x])
theorem ints'_nil : ([] : List Tr) = ints' [] := no_rfl rfl
theorem ints'_cons {x : Int} {xs : List Int} : Tr.int x :: ints' xs = ints' (x :: xs) := no_rfl rfl
theorem intsO_ints : ∀ xs : List Int, intsO (ints' xs) = some xs
  | [] => rfl
  | x :: xs => by
    show (intsO (ints' xs)).map (x :: ·) = some (x :: xs)
    rw [intsO_ints xs]
    rfl
theorem sum_ints {xs : List Int} : biT .sum [.lst (ints' xs)] = .ok (.int xs.sum) := by
  show (ofO (intsO (ints' xs))).bind (fun ns => R.ok (Tr.int ns.sum)) = _
  rw [intsO_ints]
  rfl
theorem at_pos {α : Type} {xs : List α} {i : Int} (h0 : 0 ≤ i) (h : i < xs.length) : at' xs i = some (xs[i.toNat]'(by omega)) := by
  unfold at'
  rw [if_pos h0]
  exact List.getElem?_eq_getElem _
theorem idx_ints {xs : List Int} {i : Int} (h0 : 0 ≤ i) (h : i < xs.length) : idxT (.lst (ints' xs)) (.int i) = .ok (.int (xs[i.toNat]'(by omega))) := by
  show ofO (at' (ints' xs) i) = _
  rw [at_pos h0 (by rw [ints'_length]; exact h)]
  unfold ints'
  rw [List.getElem_map]
  rfl
theorem idx_scr {xs : List Int} {i : Int} (h0 : 0 ≤ i) (h : i < xs.length) : idxT (.scr xs) (.int i) = .ok (.int (xs[i.toNat]'(by omega))) := by
  show ofO ((at' xs i).map Tr.int) = _
  rw [at_pos h0 h]
  rfl
theorem idx_lst {ts : List Tr} {i : Int} (h0 : 0 ≤ i) (h : i < ts.length) : idxT (.lst ts) (.int i) = .ok (ts[i.toNat]'(by omega)) := by
  show ofO (at' ts i) = _
  rw [at_pos h0 h]
  rfl
theorem idx_tup {ts : List Tr} {i : Int} (h0 : 0 ≤ i) (h : i < ts.length) : idxT (.tup ts) (.int i) = .ok (ts[i.toNat]'(by omega)) := by
  show ofO (at' ts i) = _
  rw [at_pos h0 h]
  rfl
def pick3 (i a b c : Int) : Int := if i = 0 then a else if i = 1 then b else c
theorem idx_3 {a b c i : Int} (h0 : 0 ≤ i) (h : i < 3) : idxT (.lst [.int a, .int b, .int c]) (.int i) = .ok (.int (pick3 i a b c)) := by
  unfold pick3
  have : i = 0 ∨ i = 1 ∨ i = 2 := by omega
  rcases this with rfl | rfl | rfl <;> rfl
def pick2 (i a b : Int) : Int := if i = 0 then a else b
theorem idx_2 {a b i : Int} (h0 : 0 ≤ i) (h : i < 2) : idxT (.lst [.int a, .int b]) (.int i) = .ok (.int (pick2 i a b)) := by
  unfold pick2
  have : i = 0 ∨ i = 1 := by omega
  rcases this with rfl | rfl <;> rfl
theorem rng_1 {n : Int} (h0 : -4611686018427387904 ≤ n) (h : n < 4611686018427387904) : rngT1 (.int n) = .ok (rngL 0 n) := by
  show (if smallOk n = true then _ else _) = _
  rw [if_pos]
  unfold smallOk
  rw [Bool.and_eq_true, decide_eq_true_eq, decide_eq_true_eq]
  omega
theorem rng_2 {n m : Int} (h0 : -4611686018427387904 ≤ n) (h : n < 4611686018427387904) (h2 : -4611686018427387904 ≤ m) (h3 : m < 4611686018427387904) : rngT2 (.int n) (.int m) = .ok (rngL n m) := by
  show (if (smallOk n && smallOk m) = true then _ else _) = _
  rw [if_pos]
  unfold smallOk
  simp only [Bool.and_eq_true, decide_eq_true_eq]
  omega
theorem rngL_length {a b : Int} : (rngL a b).length = (b - a).toNat := by
  unfold rngL
  rw [List.length_map, List.length_range]
theorem rngL_get {a b : Int} {i : Nat} (h : i < (rngL a b).length) : (rngL a b)[i] = .int (a + i) := by
  have h' : (rngL a b)[i]? = some (.int (a + i)) := by
    rw [rngL_length] at h
    unfold rngL
    rw [List.getElem?_map, List.getElem?_range h]
    rfl
  rw [List.getElem?_eq_getElem h] at h'
  exact Option.some.inj h'
theorem bindP_var {i : Nat} {t : Tr} {ρ : Env} : bindP (.var i) t ρ = .ok (ρ.set i (some t)) := no_rfl rfl
theorem bindP_tup {ps : List Pat} {ts : List Tr} {ρ : Env} : bindP (.tup ps) (.tup ts) ρ = bindPs ps ts ρ := no_rfl rfl
theorem bindPs_nil {ρ : Env} : bindPs [] [] ρ = .ok ρ := no_rfl rfl
theorem bindPs_cons {p : Pat} {ps : List Pat} {t : Tr} {ts : List Tr} {ρ : Env} : bindPs (p :: ps) (t :: ts) ρ = (bindP p t ρ).bind fun ρ' => bindPs ps ts ρ' := no_rfl rfl
theorem divmod_int {i j : Int} (h0 : 0 < j) (h : j < 1073741824) : biT .divmod [.int i, .int j] = .ok (.tup [.int (i / j), .int (i % j)]) := by
  show (if (0 < j && decide (j < 1073741824)) = true then _ else _) = _
  rw [if_pos]
  simp [h0, h]
theorem tst_nil {r : R Tr} : tstT .nil r = .ok true := no_rfl rfl

theorem isi_int_lst {ts : List Tr} : biT (.isi .int) [.lst ts] = .ok (.bl false) := no_rfl rfl
theorem isi_int_tup {ts : List Tr} : biT (.isi .int) [.tup ts] = .ok (.bl false) := no_rfl rfl
theorem isi_int_int {i : Int} : biT (.isi .int) [.int i] = .ok (.bl true) := no_rfl rfl
theorem isi_int_bl {b : Bool} : biT (.isi .int) [.bl b] = .ok (.bl true) := no_rfl rfl
theorem isi_int_str {s : Str} : biT (.isi .int) [.str s] = .ok (.bl false) := no_rfl rfl
theorem isi_int_non  : biT (.isi .int) [.non] = .ok (.bl false) := no_rfl rfl
theorem isi_bool_lst {ts : List Tr} : biT (.isi .bool) [.lst ts] = .ok (.bl false) := no_rfl rfl
theorem isi_bool_tup {ts : List Tr} : biT (.isi .bool) [.tup ts] = .ok (.bl false) := no_rfl rfl
theorem isi_bool_int {i : Int} : biT (.isi .bool) [.int i] = .ok (.bl false) := no_rfl rfl
theorem isi_bool_bl {b : Bool} : biT (.isi .bool) [.bl b] = .ok (.bl true) := no_rfl rfl
theorem isi_bool_str {s : Str} : biT (.isi .bool) [.str s] = .ok (.bl false) := no_rfl rfl
theorem isi_bool_non  : biT (.isi .bool) [.non] = .ok (.bl false) := no_rfl rfl
theorem isi_str_lst {ts : List Tr} : biT (.isi .str) [.lst ts] = .ok (.bl false) := no_rfl rfl
theorem isi_str_tup {ts : List Tr} : biT (.isi .str) [.tup ts] = .ok (.bl false) := no_rfl rfl
theorem isi_str_int {i : Int} : biT (.isi .str) [.int i] = .ok (.bl false) := no_rfl rfl
theorem isi_str_bl {b : Bool} : biT (.isi .str) [.bl b] = .ok (.bl false) := no_rfl rfl
theorem isi_str_str {s : Str} : biT (.isi .str) [.str s] = .ok (.bl true) := no_rfl rfl
theorem isi_str_non  : biT (.isi .str) [.non] = .ok (.bl false) := no_rfl rfl
theorem isi_list_lst {ts : List Tr} : biT (.isi .list) [.lst ts] = .ok (.bl true) := no_rfl rfl
theorem isi_list_tup {ts : List Tr} : biT (.isi .list) [.tup ts] = .ok (.bl false) := no_rfl rfl
theorem isi_list_int {i : Int} : biT (.isi .list) [.int i] = .ok (.bl false) := no_rfl rfl
theorem isi_list_bl {b : Bool} : biT (.isi .list) [.bl b] = .ok (.bl false) := no_rfl rfl
theorem isi_list_str {s : Str} : biT (.isi .list) [.str s] = .ok (.bl false) := no_rfl rfl
theorem isi_list_non  : biT (.isi .list) [.non] = .ok (.bl false) := no_rfl rfl
theorem isi_tuple_lst {ts : List Tr} : biT (.isi .tuple) [.lst ts] = .ok (.bl false) := no_rfl rfl
theorem isi_tuple_tup {ts : List Tr} : biT (.isi .tuple) [.tup ts] = .ok (.bl true) := no_rfl rfl
theorem isi_tuple_int {i : Int} : biT (.isi .tuple) [.int i] = .ok (.bl false) := no_rfl rfl
theorem isi_tuple_bl {b : Bool} : biT (.isi .tuple) [.bl b] = .ok (.bl false) := no_rfl rfl
theorem isi_tuple_str {s : Str} : biT (.isi .tuple) [.str s] = .ok (.bl false) := no_rfl rfl
theorem isi_tuple_non  : biT (.isi .tuple) [.non] = .ok (.bl false) := no_rfl rfl
theorem is_lst {ts : List Tr} : cmpT .is (.lst ts) .non = .ok false := no_rfl rfl
theorem isnot_lst {ts : List Tr} : cmpT .isnot (.lst ts) .non = .ok true := no_rfl rfl
theorem is_tup {ts : List Tr} : cmpT .is (.tup ts) .non = .ok false := no_rfl rfl
theorem isnot_tup {ts : List Tr} : cmpT .isnot (.tup ts) .non = .ok true := no_rfl rfl
theorem is_int {i : Int} : cmpT .is (.int i) .non = .ok false := no_rfl rfl
theorem isnot_int {i : Int} : cmpT .isnot (.int i) .non = .ok true := no_rfl rfl
theorem is_bl {b : Bool} : cmpT .is (.bl b) .non = .ok false := no_rfl rfl
theorem isnot_bl {b : Bool} : cmpT .isnot (.bl b) .non = .ok true := no_rfl rfl
theorem is_str {s : Str} : cmpT .is (.str s) .non = .ok false := no_rfl rfl
theorem isnot_str {s : Str} : cmpT .isnot (.str s) .non = .ok true := no_rfl rfl
theorem is_non  : cmpT .is .non .non = .ok true := no_rfl rfl
theorem isnot_non  : cmpT .isnot .non .non = .ok false := no_rfl rfl
theorem str_beq (x : Str) : (x == x) = true := by simp
mutual
theorem eqv_refl : ∀ {n : Nat} (t : Tr), shB n t = true → eqv t t = true
  | _, .non, _ => rfl
  | _, .bl b, _ => by cases b <;> rfl
  | _, .int i, _ => by show (i == i) = true; simp
  | _, .str s, _ => str_beq s
  | 0, .tup _, h => by cases h
  | 0, .lst _, h => by cases h
  | n + 1, .tup ts, h => eqvs_refl ts h
  | n + 1, .lst ts, h => eqvs_refl ts h
  | _, .scr _, h => by cases h
theorem eqvs_refl : ∀ {n : Nat} (ts : List Tr), shBs n ts = true → eqvs ts ts = true
  | _, [], _ => rfl
  | n, t :: ts, h => by
    have h' : (shB n t && shBs n ts) = true := h
    rw [Bool.and_eq_true] at h'
    show (eqv t t && eqvs ts ts) = true
    rw [eqv_refl t h'.1, eqvs_refl ts h'.2]
    rfl
end
theorem shBs_mem : ∀ {n : Nat} {ts : List Tr}, shBs n ts = true → ∀ t ∈ ts, shB n t = true
  | n, [], _, _, h => nomatch h
  | n, u :: us, h, t, ht => by
    have h' : (shB n u && shBs n us) = true := h
    rw [Bool.and_eq_true] at h'
    rcases List.mem_cons.mp ht with rfl | ht
    · exact h'.1
    · exact shBs_mem h'.2 t ht
theorem shBs_of {n : Nat} : ∀ {ts : List Tr}, (∀ t ∈ ts, shB n t = true) → shBs n ts = true
  | [], _ => rfl
  | u :: us, h => by
    show (shB n u && shBs n us) = true
    rw [h u List.mem_cons_self, shBs_of fun t ht => h t (List.mem_cons_of_mem _ ht)]
    rfl
mutual
theorem shB_mono : ∀ {n m : Nat} (t : Tr), n ≤ m → shB n t = true → shB m t = true
  | _, _, .non, _, _ => rfl
  | _, _, .bl _, _, _ => rfl
  | _, _, .int _, _, _ => rfl
  | _, _, .str s, _, h => h
  | 0, _, .tup _, _, h => by cases h
  | 0, _, .lst _, _, h => by cases h
  | n + 1, 0, .tup _, l, h => by omega
  | n + 1, 0, .lst _, l, h => by omega
  | n + 1, m + 1, .tup ts, l, h => shBs_mono ts (Nat.le_of_succ_le_succ l) h
  | n + 1, m + 1, .lst ts, l, h => shBs_mono ts (Nat.le_of_succ_le_succ l) h
  | _, _, .scr _, _, h => by cases h
theorem shBs_mono : ∀ {n m : Nat} (ts : List Tr), n ≤ m → shBs n ts = true → shBs m ts = true
  | _, _, [], _, _ => rfl
  | n, m, t :: ts, l, h => by
    have h' : (shB n t && shBs n ts) = true := h
    rw [Bool.and_eq_true] at h'
    show (shB m t && shBs m ts) = true
    rw [shB_mono t l h'.1, shBs_mono ts l h'.2]
    rfl
end
mutual
/-- texts as they can be, depth at most n, no list or tuple too long -/
def okB : Nat → Tr → Bool
  | _, .non | _, .bl _ | _, .int _ => true
  | _, .str x => sokB x
  | 0, .tup _ | 0, .lst _ => false
  | n + 1, .tup ts => decide (ts.length ≤ 16777216) && okBs n ts
  | n + 1, .lst ts => decide (ts.length ≤ 16777216) && okBs n ts
  | _, .scr _ => false
def okBs : Nat → List Tr → Bool
  | _, [] => true
  | n, t :: ts => okB n t && okBs n ts
end
theorem okBs_mem : ∀ {n : Nat} {ts : List Tr}, okBs n ts = true → ∀ t ∈ ts, okB n t = true
  | n, [], _, _, h => nomatch h
  | n, u :: us, h, t, ht => by
    have h' : (okB n u && okBs n us) = true := h
    rw [Bool.and_eq_true] at h'
    rcases List.mem_cons.mp ht with rfl | ht
    · exact h'.1
    · exact okBs_mem h'.2 t ht
theorem okBs_of {n : Nat} : ∀ {ts : List Tr}, (∀ t ∈ ts, okB n t = true) → okBs n ts = true
  | [], _ => rfl
  | u :: us, h => by
    show (okB n u && okBs n us) = true
    rw [h u List.mem_cons_self, okBs_of fun t ht => h t (List.mem_cons_of_mem _ ht)]
    rfl
theorem okB_lst {n : Nat} {ts : List Tr} : okB (n + 1) (.lst ts) = true ↔ ts.length ≤ 16777216 ∧ okBs n ts = true := by
  show (decide (ts.length ≤ 16777216) && okBs n ts) = true ↔ _
  rw [Bool.and_eq_true, decide_eq_true_eq]
theorem okB_tup {n : Nat} {ts : List Tr} : okB (n + 1) (.tup ts) = true ↔ ts.length ≤ 16777216 ∧ okBs n ts = true := by
  show (decide (ts.length ≤ 16777216) && okBs n ts) = true ↔ _
  rw [Bool.and_eq_true, decide_eq_true_eq]
theorem okB_ints {n : Nat} {xs : List Int} (h : xs.length ≤ 16777216) : okB (n + 1) (.lst (ints' xs)) = true := okB_lst.mpr ⟨by rw [ints'_length]; exact h, okBs_of fun t ht => by
  unfold ints' at ht
  obtain ⟨i, _, rfl⟩ := List.mem_map.mp ht
  cases n <;> rfl⟩
mutual
theorem okB_sh : ∀ {n : Nat} (t : Tr), okB n t = true → shB n t = true
  | n, .non, _ => by cases n <;> rfl
  | n, .bl b, _ => by cases n <;> rfl
  | n, .int i, _ => by cases n <;> rfl
  | n, .str s, h => by cases n <;> exact h
  | 0, .tup _, h => by cases h
  | 0, .lst _, h => by cases h
  | n + 1, .tup ts, h => okBs_sh ts (okB_tup.mp h).2
  | n + 1, .lst ts, h => okBs_sh ts (okB_lst.mp h).2
  | n, .scr _, h => by cases n <;> cases h
theorem okBs_sh : ∀ {n : Nat} (ts : List Tr), okBs n ts = true → shBs n ts = true
  | _, [], _ => rfl
  | n, t :: ts, h => by
    have h' : (okB n t && okBs n ts) = true := h
    rw [Bool.and_eq_true] at h'
    show (shB n t && shBs n ts) = true
    rw [okB_sh t h'.1, okBs_sh ts h'.2]
    rfl
end
theorem cmp_eq_refl {t : Tr} (h : sh t = true) : cmpT .eq t t = .ok true := by
  show eqT t t = _
  rcases eqT_cases t t with ⟨x, y, rfl, _⟩ | e
  · show R.ok (x == x) = _
    rw [beq_self_eq_true]
  · rw [e, h]
    show R.ok (eqv t t) = _
    rw [eqv_refl t h]
/-! ### comprehensions -/
theorem compL_map {f : Tr → R (Option Tr)} {g : Tr → Tr} : ∀ {xs : List Tr}, (∀ x ∈ xs, f x = .ok (some (g x))) → compL f xs = .ok (xs.map g)
  | [], _ => rfl
  | x :: xs, h => by
    rw [compL, h x List.mem_cons_self, R.ok_bind, compL_map fun y hy => h y (List.mem_cons_of_mem _ hy)]
    rfl
/-- over a range, the values whole numbers -/
theorem compL_rng {f : Tr → R (Option Tr)} {g : Nat → Int} {a b : Int} (h : ∀ i : Nat, i < (b - a).toNat → f (.int (a + i)) = .ok (some (.int (g i)))) : compL f (rngL a b) = .ok (ints' ((List.range (b - a).toNat).map g)) := by
  unfold rngL ints'
  generalize (b - a).toNat = n at h
  rw [List.map_map]
  suffices ∀ xs : List Nat, (∀ i ∈ xs, i < n) → compL f (xs.map fun i => Tr.int (a + (i : Nat))) = .ok (xs.map (Tr.int ∘ g)) from this _ fun i hi => List.mem_range.mp hi
  intro xs
  induction xs with
  | nil => intro _; rfl
  | cons x xs ih =>
    intro hx
    rw [List.map_cons, compL, h x (hx x List.mem_cons_self), R.ok_bind, ih fun i hi => hx i (List.mem_cons_of_mem _ hi)]
    rfl
end Jr.P

/-! Plain: the defs that all laws share. -/
namespace Jr.P
open PySem Jr
local macro_rules | `(tactic| walk_at "sx") => `(tactic| simp (disch := omega) only [evE_int, evE_bl, evE_non, evE_str, evE_var, evE_gl, evE_im, evE_bin, evE_neg, evE_not, evE_cmp, evE_chain, evE_and, evE_or, evE_ite, evE_tup, evE_lst, evE_idx, evE_slc, evE_rev, evE_call, evE_bi, evE_isi, evEs_nil, evEs_cons, evI_of, evI_rng1, evI_rng2, evI_enum, evI_zip, exec_set, exec_setp, exec_par, exec_seti, exec_aug, exec_app, exec_ife, exec_ret, exec_retn, exec_brk, exec_cnt, exec_pass, exec_expr, evC_def, tstT, parT, R.ok_bind, R.ok_out, R.ok_nox, wp_nx, wp_rt, wp_bk, wp_ct, wp_nil, wp_cons, later_nx, later_rt, later_bk, later_ct, later_n, later_r, later_r', later_b', later_c', List.getElem?_cons_zero, List.getElem?_cons_succ, Option.getD_some, Option.getD_none, ofO_some, List.set_cons_zero, List.set_cons_succ, bin_add, bin_sub, mul_r, mul_l, bin_fdiv, bin_mod, pow_18, cmp_eq, cmp_ne, cmp_lt, cmp_le, cmp_gt, cmp_ge, tru_bl, tru_int, neg_int, int_int, int_bl, abs_int, len_lst, len_tup, len_scr, max_int, min_int, list_lst, list_tup, tuple_lst, sum_ints, idx_ints, idx_scr, idx_3, idx_2, rng_1, rng_2, itemsT, bindP_var, bindP_tup, bindPs_nil, bindPs_cons, divmod_int, lsz_le, lsz_0, lsz_1, lsz_2, lsz_3, lsz_4, lsz_5, lsz_6, lsz_7, lsz_8, if_lt_SZ, if_le_SZ, ints'_snoc, List.length_append, ints'_length, List.length_nil, List.length_cons, Nat.reduceAdd, Bool.false_eq_true, if_true, if_false, reduceIte, intO, ne_eq, not_true_eq_false, not_false_eq_true, decide_true, decide_false, Bool.not_true, Bool.not_false, isi_int_lst, isi_int_tup, isi_int_int, isi_int_bl, isi_int_str, isi_int_non, isi_bool_lst, isi_bool_tup, isi_bool_int, isi_bool_bl, isi_bool_str, isi_bool_non, isi_str_lst, isi_str_tup, isi_str_int, isi_str_bl, isi_str_str, isi_str_non, isi_list_lst, isi_list_tup, isi_list_int, isi_list_bl, isi_list_str, isi_list_non, isi_tuple_lst, isi_tuple_tup, isi_tuple_int, isi_tuple_bl, isi_tuple_str, isi_tuple_non, is_lst, isnot_lst, is_tup, isnot_tup, is_int, isnot_int, is_bl, isnot_bl, is_str, isnot_str, is_non, isnot_non])
local macro_rules | `(tactic| walk_at "sxs") => `(tactic| simp (disch := omega) only [*, evE_int, evE_bl, evE_non, evE_str, evE_var, evE_gl, evE_im, evE_bin, evE_neg, evE_not, evE_cmp, evE_chain, evE_and, evE_or, evE_ite, evE_tup, evE_lst, evE_idx, evE_slc, evE_rev, evE_call, evE_bi, evE_isi, evEs_nil, evEs_cons, evI_of, evI_rng1, evI_rng2, evI_enum, evI_zip, exec_set, exec_setp, exec_par, exec_seti, exec_aug, exec_app, exec_ife, exec_ret, exec_retn, exec_brk, exec_cnt, exec_pass, exec_expr, evC_def, tstT, parT, R.ok_bind, R.ok_out, R.ok_nox, wp_nx, wp_rt, wp_bk, wp_ct, wp_nil, wp_cons, later_nx, later_rt, later_bk, later_ct, later_n, later_r, later_r', later_b', later_c', List.getElem?_cons_zero, List.getElem?_cons_succ, Option.getD_some, Option.getD_none, ofO_some, List.set_cons_zero, List.set_cons_succ, bin_add, bin_sub, mul_r, mul_l, bin_fdiv, bin_mod, pow_18, cmp_eq, cmp_ne, cmp_lt, cmp_le, cmp_gt, cmp_ge, tru_bl, tru_int, neg_int, int_int, int_bl, abs_int, len_lst, len_tup, len_scr, max_int, min_int, list_lst, list_tup, tuple_lst, sum_ints, idx_ints, idx_scr, idx_3, idx_2, rng_1, rng_2, itemsT, bindP_var, bindP_tup, bindPs_nil, bindPs_cons, divmod_int, lsz_le, lsz_0, lsz_1, lsz_2, lsz_3, lsz_4, lsz_5, lsz_6, lsz_7, lsz_8, if_lt_SZ, if_le_SZ, ints'_snoc, List.length_append, ints'_length, List.length_nil, List.length_cons, Nat.reduceAdd, Bool.false_eq_true, if_true, if_false, reduceIte, intO, ne_eq, not_true_eq_false, not_false_eq_true, decide_true, decide_false, Bool.not_true, Bool.not_false, isi_int_lst, isi_int_tup, isi_int_int, isi_int_bl, isi_int_str, isi_int_non, isi_bool_lst, isi_bool_tup, isi_bool_int, isi_bool_bl, isi_bool_str, isi_bool_non, isi_str_lst, isi_str_tup, isi_str_int, isi_str_bl, isi_str_str, isi_str_non, isi_list_lst, isi_list_tup, isi_list_int, isi_list_bl, isi_list_str, isi_list_non, isi_tuple_lst, isi_tuple_tup, isi_tuple_int, isi_tuple_bl, isi_tuple_str, isi_tuple_non, is_lst, isnot_lst, is_tup, isnot_tup, is_int, isnot_int, is_bl, isnot_bl, is_str, isnot_str, is_non, isnot_non])
/-! ### the script's cell -/
def cellN (ns : List Int) (k : Nat) : Int := ns.getD k 0
def F_cell : Fn where
  name := "_law_cell"
  np := 2
  N := ["script", "k"]
  body := .cons (.ife (.cmp .lt (.var 1) (.bi .len (.cons (.var 0) (.nil)))) (.cons (.ret (.bi .int (.cons (.idx (.var 0) (.var 1)) (.nil)))) .nil) (.nil)) (
    .cons (.ret (.int 0)) .nil)
  fr := true
def F_numbers : Fn where
  name := "_law_numbers"
  np := 3
  N := ["cell", "count", "limit", "found", "k", "mixed"]
  body := .cons (.set 3 (.lst (.nil))) (
    .cons (.ife (.cmp .ge (.var 0) (.bin .pow (.int 10) (.int 18))) (.cons (.for [3, 5] (.var 4) (.rng1 (.var 1)) (.cons (.app 3 (.bin .mod (.bi .int (.cons (.var 0) (.nil))) (.var 2))) (
        .cons (.set 0 (.bin .fdiv (.bi .int (.cons (.var 0) (.nil))) (.var 2))) .nil))) (
      .cons (.ret (.var 3)) .nil)) (.nil)) (
    .cons (.for [3, 5] (.var 4) (.rng1 (.var 1)) (.cons (.set 5 (.bin .mod (.bi .int (.cons (.bin .add (.bin .add (.bin .mul (.var 0) (.int 48271)) (.bin .mul (.var 4) (.int 69621))) (.int 7)) (.nil))) (.int 2147483647))) (
      .cons (.set 5 (.bin .mod (.bi .int (.cons (.bin .add (.bin .add (.bin .add (.bin .mul (.var 5) (.var 5)) (.bin .mul (.var 5) (.int 40692))) (.bin .mul (.var 4) (.int 16807))) (.int 11)) (.nil))) (.int 2147483399))) (
      .cons (.app 3 (.bin .mod (.bi .int (.cons (.bin .fdiv (.var 5) (.int 32)) (.nil))) (.var 2))) .nil)))) (
    .cons (.ret (.var 3)) .nil)))
  fr := true
def F_same (f : Nat) : Fn where
  name := "_law_same"
  np := 2
  N := ["told", "due", "k"]
  body := .cons (.ife (.isi .list (.var 1)) (.cons (.ife (.or (.not (.isi .list (.var 0))) (.cmp .ne (.bi .len (.cons (.var 0) (.nil))) (.bi .len (.cons (.var 1) (.nil))))) (.cons (.ret (.bl false)) .nil) (.nil)) .nil) (.cons (.ife (.isi .tuple (.var 1)) (.cons (.ife (.or (.not (.isi .tuple (.var 0))) (.cmp .ne (.bi .len (.cons (.var 0) (.nil))) (.bi .len (.cons (.var 1) (.nil))))) (.cons (.ret (.bl false)) .nil) (.nil)) .nil) (.cons (.ife (.cmp .is (.var 1) (.non)) (.cons (.ret (.cmp .is (.var 0) (.non))) .nil) (.cons (.ife (.isi .bool (.var 1)) (.cons (.ret (.and (.isi .bool (.var 0)) (.cmp .eq (.var 0) (.var 1)))) .nil) (.cons (.ife (.isi .int (.var 1)) (.cons (.ret (.and (.isi .int (.var 0)) (.and (.not (.isi .bool (.var 0))) (.cmp .eq (.var 0) (.var 1))))) .nil) (.cons (.ret (.and (.isi .str (.var 0)) (.cmp .eq (.var 0) (.var 1)))) .nil)) .nil)) .nil)) .nil)) .nil)) (
    .cons (.for [] (.var 2) (.rng1 (.bi .len (.cons (.var 1) (.nil)))) (.cons (.ife (.not (.call f (.cons (.idx (.var 0) (.var 2)) (.cons (.idx (.var 1) (.var 2)) (.nil))))) (.cons (.ret (.bl false)) .nil) (.nil)) .nil)) (
    .cons (.ret (.bl true)) .nil))
  fr := true
section
variable {fs : List Fn} {gl : List Tr} {fuel k f : Nat}
theorem cell_ok (hf : fs[f]? = some F_cell) (ns : List Int) (i : Int) (h0 : 0 ≤ i) : runF fs gl fuel (k + 1) f [.scr ns, .int i] = .ok (.int (cellN ns i.toNat)) := by
  refine run_eq hf rfl ?_
  show wp _ (execs _ _ [some (.scr ns), some (.int i)])
  simp only [F_cell]
  walk_at "sx"
  refine wp_ite (fun h => ?_) fun h => ?_
  · have h := of_decide_eq_true h
    walk_at "sx"
    unfold cellN
    rw [List.getD_eq_getElem?_getD, List.getElem?_eq_getElem]
    rfl
  · have h := of_decide_eq_false h
    walk_at "sx"
    unfold cellN
    rw [List.getD_eq_getElem?_getD, List.getElem?_eq_none (by omega)]
    rfl
/-- drawn numbers: so many, each from 0 to below the limit -/
def Drawn (n : Nat) (l : Int) (xs : List Int) : Prop := xs.length = n ∧ ∀ x ∈ xs, 0 ≤ x ∧ x < l
theorem Drawn.snoc {n : Nat} {l x : Int} {xs : List Int} (h : Drawn n l xs) (h0 : 0 ≤ x) (h1 : x < l) : Drawn (n + 1) l (xs ++ [x]) := by
  refine ⟨by rw [List.length_append, h.1]; rfl, fun y hy => ?_⟩
  rcases List.mem_append.mp hy with hy | hy
  · exact h.2 y hy
  · rw [List.mem_singleton.mp hy]
    exact ⟨h0, h1⟩
theorem numbers_ok (hf : fs[f]? = some F_numbers) (cell count limit : Int) (h0 : 0 ≤ count) (h1 : count < 1000000) (h2 : 0 < limit) (h3 : limit < 18446744073709551616) :
    ∃ xs, Drawn count.toNat limit xs ∧ runF fs gl fuel (k + 1) f [.int cell, .int count, .int limit] = .ok (.lst (ints' xs)) := by
  have key : ∃ t, runF fs gl fuel (k + 1) f [.int cell, .int count, .int limit] = .ok t ∧ ∃ xs, Drawn count.toNat limit xs ∧ t = .lst (ints' xs) := by
    refine run_of _ hf rfl ?_
    show wp _ (execs _ _ [some (.int cell), some (.int count), some (.int limit), none, none, none])
    simp only [F_numbers]
    walk_at "sx"
    refine wp_ite (fun h => ?_) fun h => ?_
    · walk_at "sx"
      refine wp_for (xs := rngL 0 count) (by walk_at "sx") (fun i ρ => ∃ c u xs, Drawn i limit xs ∧ ρ = [some (.int c), some (.int count), some (.int limit), some (.lst (ints' xs)), u, none]) ⟨cell, none, [], ⟨rfl, fun _ z => nomatch z⟩, rfl⟩ (fun i hi ρ hI => ?_) fun ρ hI => ?_
      · obtain ⟨c, u, xs, hd, rfl⟩ := hI
        rw [rngL_length] at hi
        have hl := hd.1
        simp only [rngL_get]
        walk_at "sx"
        exact ⟨_, _, _, hd.snoc (Int.emod_nonneg _ (by omega)) (Int.emod_lt_of_pos _ h2), rfl⟩
      · obtain ⟨c, u, xs, hd, rfl⟩ := hI
        rw [rngL_length] at hd
        walk_at "sx"
        exact ⟨xs, by rw [Int.sub_zero] at hd; exact hd, rfl⟩
    · walk_at "sx"
      refine wp_for (xs := rngL 0 count) (by walk_at "sx") (fun i ρ => ∃ v u xs, Drawn i limit xs ∧ ρ = [some (.int cell), some (.int count), some (.int limit), some (.lst (ints' xs)), u, v]) ⟨none, none, [], ⟨rfl, fun _ z => nomatch z⟩, rfl⟩ (fun i hi ρ hI => ?_) fun ρ hI => ?_
      · obtain ⟨v, u, xs, hd, rfl⟩ := hI
        rw [rngL_length] at hi
        have hl := hd.1
        simp only [rngL_get]
        rw [bindP_var, R.ok_out]
        simp only [List.set_cons_succ, List.set_cons_zero]
        refine wp_set (t := .int ((cell * 48271 + (0 + (i : Int)) * 69621 + 7) % 2147483647)) (by walk_at "sx") ?_
        have q1 := Int.emod_nonneg (cell * 48271 + (0 + (i : Int)) * 69621 + 7) (show (2147483647 : Int) ≠ 0 by omega)
        have q2 := Int.emod_lt_of_pos (cell * 48271 + (0 + (i : Int)) * 69621 + 7) (show (0 : Int) < 2147483647 by omega)
        generalize (cell * 48271 + (0 + (i : Int)) * 69621 + 7) % 2147483647 = m at q1 q2
        walk_at "sx"
        exact ⟨_, _, _, hd.snoc (Int.emod_nonneg _ (by omega)) (Int.emod_lt_of_pos _ h2), rfl⟩
      · obtain ⟨c, u, xs, hd, rfl⟩ := hI
        rw [rngL_length] at hd
        walk_at "sx"
        exact ⟨xs, by rw [Int.sub_zero] at hd; exact hd, rfl⟩
  obtain ⟨t, h, xs, hd, rfl⟩ := key
  exact ⟨xs, hd, h⟩
theorem same_loop {c : Ctx} {P : Post} {x : Tr} {ts : List Tr} (hx : x = .lst ts ∨ x = .tup ts) (hz : ts.length ≤ SZ) (hcal : ∀ t ∈ ts, c.cal f [t, t] = .ok (.bl true)) (hP : ∀ u, wp P (.nx [some x, some x, u])) :
    wp P (exec c (.for [] (.var 2) (.rng1 (.bi .len (.cons (.var 1) (.nil)))) (.cons (.ife (.not (.call f (.cons (.idx (.var 0) (.var 2)) (.cons (.idx (.var 1) (.var 2)) (.nil))))) (.cons (.ret (.bl false)) .nil) (.nil)) .nil)) [some x, some x, none]) := by
  have hlen : biT .len [x] = .ok (.int ts.length) := by rcases hx with rfl | rfl <;> rfl
  have hidx : ∀ (i : Nat) (h : i < ts.length), idxT x (.int (0 + i)) = .ok ts[i] := fun i h => by
    have e : (0 + (i : Int)).toNat = i := by omega
    rcases hx with rfl | rfl
    · rw [idx_lst (by omega) (by omega)]
      simp only [e]
    · rw [idx_tup (by omega) (by omega)]
      simp only [e]
  have hev : evI c (.rng1 (.bi .len (.cons (.var 1) (.nil)))) [some x, some x, none] = .ok (rngL 0 (ts.length : Int)) := by
    simp only [evI_rng1, evE_bi, evEs_cons, evEs_nil, evE_var, List.getElem?_cons_zero, List.getElem?_cons_succ, Option.getD_some, ofO_some, R.ok_bind, hlen]
    have hS : SZ = 16777216 := rfl
    exact rng_1 (by omega) (by omega)
  refine wp_for hev (fun i ρ => ∃ u, ρ = [some x, some x, u]) ⟨_, rfl⟩ (fun i hi ρ hI => ?_) fun ρ hI => ?_
  · obtain ⟨u, rfl⟩ := hI
    rw [rngL_length] at hi
    have hi' : i < ts.length := by omega
    simp only [rngL_get]
    walk_at "sx"
    simp only [hidx i hi', R.ok_bind, hcal _ (List.getElem_mem hi')]
    walk_at "sx"
    exact ⟨_, rfl⟩
  · obtain ⟨u, rfl⟩ := hI
    exact hP u
theorem same_seq (hf : fs[f]? = some (F_same f)) {x : Tr} {ts : List Tr} (hx : x = .lst ts ∨ x = .tup ts) (hz : ts.length ≤ SZ) (m : Nat) (hc : ∀ t ∈ ts, runF fs gl fuel m f [t, t] = .ok (.bl true)) : runF fs gl fuel (m + 1) f [x, x] = .ok (.bl true) := by
  refine run_eq hf rfl ?_
  show wp _ (execs _ _ [some x, some x, none])
  simp only [F_same]
  generalize hcc : Ctx.mk (runF fs gl fuel m) gl fuel = c
  have hc' : ∀ t ∈ ts, c.cal f [t, t] = .ok (.bl true) := fun t ht => by rw [← hcc]; exact hc t ht
  rcases hx with rfl | rfl
  · walk_at "sx"
    exact @same_loop f c _ (.lst ts) ts (.inl rfl) hz hc' fun u => by walk_at "sx"
  · walk_at "sx"
    exact @same_loop f c _ (.tup ts) ts (.inr rfl) hz hc' fun u => by walk_at "sx"
theorem same_ok (hf : fs[f]? = some (F_same f)) : ∀ (d : Nat) (t : Tr) (m : Nat), d ≤ m → okB d t = true → runF fs gl fuel (m + 1) f [t, t] = .ok (.bl true)
  | d, .non, m, hd, h => by
    refine run_eq hf rfl ?_
    show wp _ (execs _ _ [some .non, some .non, none])
    simp only [F_same]
    walk_at "sx"
  | d, .bl b, m, hd, h => by
    refine run_eq hf rfl ?_
    show wp _ (execs _ _ [some (.bl b), some (.bl b), none])
    simp only [F_same]
    have e : cmpT .eq (.bl b) (.bl b) = .ok true := cmp_eq_refl rfl
    walk_at "sx"
    simp only [e]
    walk_at "sx"
  | d, .int i, m, hd, h => by
    refine run_eq hf rfl ?_
    show wp _ (execs _ _ [some (.int i), some (.int i), none])
    simp only [F_same]
    walk_at "sx"
  | d, .str s, m, hd, h => by
    refine run_eq hf rfl ?_
    show wp _ (execs _ _ [some (.str s), some (.str s), none])
    simp only [F_same]
    have e : cmpT .eq (.str s) (.str s) = .ok true := cmp_eq_refl (by cases d <;> exact h)
    walk_at "sx"
    simp only [e]
    walk_at "sx"
  | 0, .tup ts, m, hd, h => by cases h
  | 0, .lst ts, m, hd, h => by cases h
  | d + 1, .tup ts, m, hd, h => by
    obtain ⟨m, rfl⟩ : ∃ m', m = m' + 1 := ⟨m - 1, by omega⟩
    obtain ⟨h1, h2⟩ := okB_tup.mp h
    exact same_seq hf (.inr rfl) h1 _ fun t ht => same_ok hf d t m (by omega) (okBs_mem h2 t ht)
  | d + 1, .lst ts, m, hd, h => by
    obtain ⟨m, rfl⟩ : ∃ m', m = m' + 1 := ⟨m - 1, by omega⟩
    obtain ⟨h1, h2⟩ := okB_lst.mp h
    exact same_seq hf (.inl rfl) h1 _ fun t ht => same_ok hf d t m (by omega) (okBs_mem h2 t ht)
  | d, .scr ns, m, hd, h => by cases d <;> cases h
end
end Jr.P

/-! Plain: lists of whole numbers. -/
namespace Jr.P
open PySem Jr
theorem Drawn.fn {n : Nat} {l : Int} {xs : List Int} (h : Drawn n l xs) (hl : 0 < l) : ∃ d : Int → Int, (∀ i, 0 ≤ d i ∧ d i < l) ∧ ∀ i : Int, 0 ≤ i → i < n → idxT (.lst (ints' xs)) (.int i) = .ok (.int (d i)) := by
  refine ⟨fun i => xs.getD i.toNat 0, fun i => ?_, fun i h0 h1 => ?_⟩
  · show 0 ≤ xs.getD i.toNat 0 ∧ xs.getD i.toNat 0 < l
    rw [List.getD_eq_getElem?_getD]
    by_cases hi : i.toNat < xs.length
    · rw [List.getElem?_eq_getElem hi]
      exact h.2 _ (List.getElem_mem hi)
    · rw [List.getElem?_eq_none (by omega)]
      exact ⟨Int.le_refl 0, hl⟩
  · have hi : i < xs.length := by rw [h.1]; exact h1
    rw [idx_ints h0 hi]
    show R.ok (Tr.int xs[i.toNat]) = R.ok (Tr.int (xs.getD i.toNat 0))
    rw [List.getD_eq_getElem?_getD, List.getElem?_eq_getElem (by omega)]
    rfl
/-- a comprehension over a range, its values whole numbers -/
theorem comp_rng {c : Ctx} {v : Nat} {it : It} {e : Ex} {ρ : Env} {a b : Int} (g : Nat → Int) (hx : evI c it ρ = .ok (rngL a b)) (hz : b - a ≤ 16777216)
    (h : ∀ i : Nat, (i : Int) < b - a → evE c e ((ρ.set v none).set v (some (.int (a + i)))) = .ok (.int (g i))) : evE c (.comp (.var v) it .nil e) ρ = .ok (.lst (ints' ((List.range (b - a).toNat).map g))) := by
  rw [evE_comp, hx, R.ok_bind]
  rw [compL_rng (g := g) fun i hi => ?_]
  · rw [R.ok_bind, lsz_le]
    rw [ints'_length, List.length_map, List.length_range]
    omega
  · have q := h i (by omega)
    show ((bindP (.var v) (.int (a + i)) (ρ.set v none)).bind _).nox = _
    rw [bindP_var, R.ok_bind, tst_nil, R.ok_bind, if_pos rfl, q]
    rfl
def pre (xs : List Int) (j : Nat) : Int := (xs.take j).sum
theorem pre_zero {xs : List Int} : pre xs 0 = 0 := rfl
theorem pre_all {xs : List Int} : pre xs xs.length = xs.sum := by
  unfold pre
  rw [List.take_length]
theorem pre_succ {xs : List Int} {j : Nat} (h : j < xs.length) : pre xs (j + 1) = pre xs j + xs[j] := by
  unfold pre
  rw [List.take_succ_eq_append_getElem h, List.sum_append]
  simp
theorem sum_slice {xs : List Int} {i j : Nat} (h : i ≤ j) : ((xs.drop i).take (j - i)).sum = pre xs j - pre xs i := by
  unfold pre
  have e : xs.take j = xs.take i ++ (xs.drop i).take (j - i) := by
    rw [← List.take_add]
    congr 1
    omega
  rw [e, List.sum_append]
  omega
theorem slc_ints {xs : List Int} {a b : Int} (h0 : 0 ≤ a) (h1 : a ≤ b) (h2 : b ≤ xs.length) : slcT (.lst (ints' xs)) (some a) (some b) = .ok (.lst (ints' ((xs.drop a.toNat).take (b.toNat - a.toNat)))) := by
  show R.ok (Tr.lst (cut (ints' xs) (some a) (some b))) = _
  unfold cut sIx
  simp only [ints'_length]
  rw [if_neg (by omega), if_neg (by omega), Nat.min_eq_left (by omega), Nat.min_eq_left (by omega)]
  unfold ints'
  rw [← List.map_drop, ← List.map_take]
theorem sum_cut {xs : List Int} {a b : Int} (h0 : 0 ≤ a) (h1 : a ≤ b) (h2 : b ≤ xs.length) : biT .sum [.lst (ints' ((xs.drop a.toNat).take (b.toNat - a.toNat)))] = .ok (.int (pre xs b.toNat - pre xs a.toNat)) := by
  rw [sum_ints, sum_slice (by omega)]
theorem sh_ints {xs : List Int} : sh (.lst (ints' xs)) = true := shBs_of fun t ht => by
  unfold ints' at ht
  obtain ⟨i, _, rfl⟩ := List.mem_map.mp ht
  rfl
theorem cmp_ne_refl {t : Tr} (h : sh t = true) : cmpT .ne t t = .ok false := by
  have q := cmp_eq_refl h
  have q : eqT t t = .ok true := q
  show (eqT t t).bind _ = _
  rw [q]
  rfl
theorem ltv_int {a b : Int} : ltv (.int a) (.int b) = decide (a < b) := PySem.W.dataLt_int a b
theorem maxT_ints : ∀ (xs : List Int) (x : Int), ∃ m, maxT (.int x) (ints' xs) = .int m ∧ m ∈ x :: xs ∧ ∀ y ∈ x :: xs, y ≤ m
  | [], x => ⟨x, rfl, List.mem_singleton.mpr rfl, fun y hy => by rw [List.mem_singleton.mp hy]; exact Int.le_refl x⟩
  | y :: ys, x => by
    have e : maxT (.int x) (ints' (y :: ys)) = maxT (if ltv (.int x) (.int y) then .int y else .int x) (ints' ys) := rfl
    rw [ltv_int] at e
    by_cases h : x < y
    · rw [decide_eq_true h, if_pos rfl] at e
      obtain ⟨m, h1, h2, h3⟩ := maxT_ints ys y
      refine ⟨m, e.trans h1, List.mem_cons_of_mem _ h2, fun z hz => ?_⟩
      rcases List.mem_cons.mp hz with rfl | hz
      · have := h3 y List.mem_cons_self
        omega
      · exact h3 z hz
    · rw [decide_eq_false h, if_neg (by decide)] at e
      obtain ⟨m, h1, h2, h3⟩ := maxT_ints ys x
      refine ⟨m, e.trans h1, ?_, fun z hz => ?_⟩
      · rcases List.mem_cons.mp h2 with h2 | h2
        · rw [h2]; exact List.mem_cons_self
        · exact List.mem_cons_of_mem _ (List.mem_cons_of_mem _ h2)
      · rcases List.mem_cons.mp hz with rfl | hz
        · exact h3 z List.mem_cons_self
        · rcases List.mem_cons.mp hz with rfl | hz
          · have := h3 x List.mem_cons_self
            omega
          · exact h3 z (List.mem_cons_of_mem _ hz)
theorem minT_ints : ∀ (xs : List Int) (x : Int), ∃ m, minT (.int x) (ints' xs) = .int m ∧ m ∈ x :: xs ∧ ∀ y ∈ x :: xs, m ≤ y
  | [], x => ⟨x, rfl, List.mem_singleton.mpr rfl, fun y hy => by rw [List.mem_singleton.mp hy]; exact Int.le_refl x⟩
  | y :: ys, x => by
    have e : minT (.int x) (ints' (y :: ys)) = minT (if ltv (.int y) (.int x) then .int y else .int x) (ints' ys) := rfl
    rw [ltv_int] at e
    by_cases h : y < x
    · rw [decide_eq_true h, if_pos rfl] at e
      obtain ⟨m, h1, h2, h3⟩ := minT_ints ys y
      refine ⟨m, e.trans h1, List.mem_cons_of_mem _ h2, fun z hz => ?_⟩
      rcases List.mem_cons.mp hz with rfl | hz
      · have := h3 y List.mem_cons_self
        omega
      · exact h3 z hz
    · rw [decide_eq_false h, if_neg (by decide)] at e
      obtain ⟨m, h1, h2, h3⟩ := minT_ints ys x
      refine ⟨m, e.trans h1, ?_, fun z hz => ?_⟩
      · rcases List.mem_cons.mp h2 with h2 | h2
        · rw [h2]; exact List.mem_cons_self
        · exact List.mem_cons_of_mem _ (List.mem_cons_of_mem _ h2)
      · rcases List.mem_cons.mp hz with rfl | hz
        · exact h3 z List.mem_cons_self
        · rcases List.mem_cons.mp hz with rfl | hz
          · have := h3 x List.mem_cons_self
            omega
          · exact h3 z (List.mem_cons_of_mem _ hz)
theorem ext_ints {xs : List Int} : extOk (ints' xs) = true := by
  have m : ∀ t ∈ ints' xs, ∃ i, t = .int i := fun t ht => by
    unfold ints' at ht
    obtain ⟨i, _, rfl⟩ := List.mem_map.mp ht
    exact ⟨i, rfl⟩
  unfold extOk
  simp only [Bool.and_eq_true, List.all_eq_true]
  refine ⟨⟨⟨fun t ht u hu => ?_, fun t ht => ?_⟩, fun t ht => ?_⟩, fun t ht => ?_⟩
  · obtain ⟨i, rfl⟩ := m t ht
    obtain ⟨j, rfl⟩ := m u hu
    rfl
  all_goals
    obtain ⟨i, rfl⟩ := m t ht
    rfl
theorem maxl_ints {xs : List Int} (h : xs ≠ []) : ∃ m, m ∈ xs ∧ (∀ y ∈ xs, y ≤ m) ∧ biT .maxl [.lst (ints' xs)] = .ok (.int m) := by
  cases xs with
  | nil => exact absurd rfl h
  | cons x xs =>
    obtain ⟨m, h1, h2, h3⟩ := maxT_ints xs x
    refine ⟨m, h2, h3, ?_⟩
    show (if extOk (ints' (x :: xs)) = true then R.ok (maxT (.int x) (ints' xs)) else .no) = _
    rw [if_pos ext_ints, h1]
theorem minl_ints {xs : List Int} (h : xs ≠ []) : ∃ m, m ∈ xs ∧ (∀ y ∈ xs, m ≤ y) ∧ biT .minl [.lst (ints' xs)] = .ok (.int m) := by
  cases xs with
  | nil => exact absurd rfl h
  | cons x xs =>
    obtain ⟨m, h1, h2, h3⟩ := minT_ints xs x
    refine ⟨m, h2, h3, ?_⟩
    show (if extOk (ints' (x :: xs)) = true then R.ok (minT (.int x) (ints' xs)) else .no) = _
    rw [if_pos ext_ints, h1]
theorem setAt_ints {xs : List Int} {k v : Int} (h0 : 0 ≤ k) (h1 : k < xs.length) : setAt (ints' xs) k (.int v) = some (ints' (xs.set k.toNat v)) := by
  unfold setAt
  rw [if_pos h0, if_pos (by rw [ints'_length]; exact h1)]
  unfold ints'
  rw [List.map_set]
theorem aug_add {a b : Int} : augT .add (.int a) (.int b) = .ok (.int (a + b)) := no_rfl rfl
theorem aug_sub {a b : Int} : augT .sub (.int a) (.int b) = .ok (.int (a - b)) := no_rfl rfl
theorem ints'_get {xs : List Int} {i : Nat} (h : i < (ints' xs).length) : (ints' xs)[i] = .int (xs[i]'(by rw [ints'_length] at h; exact h)) := by
  have h2 : i < xs.length := by rw [ints'_length] at h; exact h
  have e : (ints' xs)[i]? = some (.int xs[i]) := by
    unfold ints'
    rw [List.getElem?_map, List.getElem?_eq_getElem h2]
    rfl
  rw [List.getElem?_eq_getElem h] at e
  exact Option.some.inj e
theorem sum_const {q : Int} : ∀ m : Nat, ((List.range m).map fun _ => q).sum = m * q
  | 0 => by simp
  | m + 1 => by
    rw [List.range_succ, List.map_append, List.sum_append, sum_const m]
    simp
    rw [Int.add_mul, Int.one_mul]
theorem pre_map {f : Nat → Int} {n j : Nat} (h : j ≤ n) : pre ((List.range n).map f) j = ((List.range j).map f).sum := by
  unfold pre
  rw [← List.map_take, List.take_range, Nat.min_eq_left h]
theorem sum_snoc {f : Nat → Int} {j : Nat} : ((List.range (j + 1)).map f).sum = ((List.range j).map f).sum + f j := by
  rw [List.range_succ, List.map_append, List.sum_append]
  simp
/-- a sum of steps -/
theorem sum_steps {F : Nat → Int} : ∀ n : Nat, ((List.range n).map fun j => F (j + 1) - F j).sum = F n - F 0
  | 0 => by simp
  | n + 1 => by
    rw [sum_snoc, sum_steps n]
    omega
theorem pre_mono {xs : List Int} (h : ∀ x ∈ xs, 0 ≤ x) {i j : Nat} (hij : i ≤ j) : pre xs i ≤ pre xs j := by
  induction j with
  | zero => rw [Nat.le_zero.mp hij]; exact Int.le_refl _
  | succ j ih =>
    by_cases e : i = j + 1
    · rw [e]; exact Int.le_refl _
    · have q := ih (by omega)
      by_cases hj : j < xs.length
      · rw [pre_succ hj]
        have := h _ (List.getElem_mem hj)
        omega
      · have : pre xs (j + 1) = pre xs j := by
          unfold pre
          rw [List.take_of_length_le (by omega), List.take_of_length_le (by omega)]
        omega
theorem get_of {α : Type} {xs : List α} {i : Nat} {y : α} (h : i < xs.length) (e : xs[i]? = some y) : xs[i] = y := by
  rw [List.getElem?_eq_getElem h] at e
  exact Option.some.inj e
theorem get_map {f : Nat → Int} {n i : Nat} (h : i < n) : ((List.range n).map f)[i]? = some (f i) := by
  rw [List.getElem?_map, List.getElem?_range h]
  rfl
theorem idx_map {f : Nat → Int} {n : Nat} {i : Int} (h0 : 0 ≤ i) (h : i < n) : idxT (.lst (ints' ((List.range n).map f))) (.int i) = .ok (.int (f i.toNat)) := by
  have hl : i < ((List.range n).map f).length := by rw [List.length_map, List.length_range]; exact h
  rw [idx_ints h0 hl]
  congr 2
  exact get_of _ (get_map (by omega))
theorem idx_getD {xs : List Int} {i : Int} (h0 : 0 ≤ i) (h : i < xs.length) : idxT (.lst (ints' xs)) (.int i) = .ok (.int (xs.getD i.toNat 0)) := by
  rw [idx_ints h0 h]
  congr 2
  rw [List.getD_eq_getElem?_getD, List.getElem?_eq_getElem (by omega)]
  rfl
theorem sum_le {B : Int} : ∀ (xs : List Int), (∀ x ∈ xs, x ≤ B) → xs.sum ≤ B * xs.length
  | [], _ => by simp
  | x :: xs, h => by
    have h1 := h x List.mem_cons_self
    have h2 := sum_le xs fun y hy => h y (List.mem_cons_of_mem _ hy)
    rw [List.sum_cons, List.length_cons, Int.natCast_succ, Int.mul_add, Int.mul_one]
    omega
theorem sum_nonneg : ∀ (xs : List Int), (∀ x ∈ xs, 0 ≤ x) → 0 ≤ xs.sum
  | [], _ => by simp
  | x :: xs, h => by
    have h1 := h x List.mem_cons_self
    have h2 := sum_nonneg xs fun y hy => h y (List.mem_cons_of_mem _ hy)
    rw [List.sum_cons]
    omega
theorem pre_succD {xs : List Int} {j : Nat} (h : j < xs.length) : pre xs (j + 1) = pre xs j + xs.getD j 0 := by
  rw [pre_succ h, List.getD_eq_getElem?_getD, List.getElem?_eq_getElem h]
  rfl
/-- what is lost by rounding is less than one -/
theorem round_lt {c p p' w : Int} (hw : 0 < w) : ((c * p' / w - c * p / w) * w - c * (p' - p) < w) ∧ -w < (c * p' / w - c * p / w) * w - c * (p' - p) := by
  have h1 := Int.emod_add_mul_ediv (c * p) w
  have h2 := Int.emod_add_mul_ediv (c * p') w
  have h3 := Int.emod_nonneg (c * p) (show w ≠ 0 by omega)
  have h4 := Int.emod_nonneg (c * p') (show w ≠ 0 by omega)
  have h5 := Int.emod_lt_of_pos (c * p) hw
  have h6 := Int.emod_lt_of_pos (c * p') hw
  rw [Int.sub_mul, Int.mul_sub, Int.mul_comm (c * p' / w) w, Int.mul_comm (c * p / w) w]
  omega
end Jr.P

namespace Lk17
open PySem Jr
def f_law : Fn where
  name := "law"
  np := 1
  N := ["script", "draws", "weights", "n", "at", "tries", "value", "some", "kept", "m", "case", "k", "votes", "told", "juror", "later", "odd", "q"]
  body := .cons (.set 1 (.call 1 (.cons (.call 5 (.cons (.var 0) (.cons (.int 0) (.nil)))) (.cons (.int 60) (.cons (.int 5040) (.nil)))))) (
    .cons (.set 2 (.call 2 (.cons (.var 1) (.cons (.int 0) (.cons (.int 9) (.nil)))))) (
    .cons (.set 3 (.bi .len (.cons (.var 2) (.nil)))) (
    .cons (.set 4 (.bin .mod (.idx (.var 1) (.int 12)) (.var 3))) (
    .cons (.set 5 (.lst (.cons (.var 2) (.cons (.slc (.var 2) (.int 1) (.nil)) (.cons (.bin .add (.var 2) (.slc (.var 2) (.int 0) (.int 1))) (.cons (.lst (.nil)) (.cons (.bin .mul (.lst (.cons (.int 1) (.nil))) (.int 9)) (.cons (.bin .mul (.lst (.cons (.int 1) (.nil))) (.int 10)) (.cons (.bin .add (.bin .mul (.lst (.cons (.int 1) (.nil))) (.int 10)) (.lst (.cons (.non) (.nil)))) (.cons (.lst (.cons (.int 0) (.nil))) (.cons (.lst (.cons (.int 0) (.cons (.int 0) (.cons (.int 0) (.nil))))) (.cons (.lst (.cons (.int 2) (.nil))) (.cons (.lst (.cons (.int 1000) (.cons (.int 1) (.nil)))) (.nil)))))))))))))) (
    .cons (.for [5, 4, 3, 7, 8, 9, 10, 11, 12, 13, 14, 15, 16, 17] (.var 6) (.of (.lst (.cons (.int 0) (.cons (.int 1) (.cons (.int 2) (.cons (.neg (.int 1)) (.cons (.int 1000) (.cons (.int 1001) (.cons (.bl true) (.cons (.non) (.cons (.str "1") (.cons (.tup (.cons (.int 1) (.nil))) (.nil))))))))))))) (.cons (.set 5 (.bin .add (.var 5) (.lst (.cons (.bin .add (.bin .add (.slc (.var 2) (.int 0) (.var 4)) (.lst (.cons (.var 6) (.nil)))) (.slc (.var 2) (.bin .add (.var 4) (.int 1)) (.nil))) (.cons (.lst (.cons (.var 6) (.nil))) (.cons (.lst (.cons (.var 6) (.cons (.int 1) (.cons (.int 1) (.nil))))) (.cons (.bin .add (.lst (.cons (.var 6) (.nil))) (.lst (.cons (.non) (.nil)))) (.nil)))))))) .nil)) (
    .cons (.for [4, 3, 8, 9, 10, 11, 12, 13, 14, 15, 16, 17] (.var 7) (.of (.var 5)) (.cons (.ife (.cmp .ne (.call 11 (.cons (.var 7) (.nil))) (.call 15 (.cons (.var 7) (.nil)))) (.cons (.ret (.bl false)) .nil) (.nil)) .nil)) (
    .cons (.set 8 (.bi .list (.cons (.var 2) (.nil)))) (
    .cons (.for [8, 4, 9, 10, 11, 12, 13, 14, 15, 16, 17] (.var 7) (.of (.bin .add (.slk 7 (.call 16 (.cons (.var 3) (.nil))) (.int 0) (.int 512)) (.lst (.cons (.lrg1 (.var 3)) (.nil))))) (.cons (.ife (.or (.not (.call 17 (.cons (.call 8 (.cons (.var 2) (.cons (.var 7) (.nil)))) (.cons (.call 19 (.cons (.var 2) (.cons (.var 7) (.nil)))) (.nil))))) (.not (.call 17 (.cons (.call 8 (.cons (.var 2) (.cons (.rev (.var 7)) (.nil)))) (.cons (.call 19 (.cons (.var 2) (.cons (.var 7) (.nil)))) (.nil)))))) (.cons (.ret (.bl false)) .nil) (.nil)) .nil)) (
    .cons (.set 9 (.bin .add (.int 1) (.bin .mod (.idx (.var 1) (.int 13)) (.int 4)))) (
    .cons (.set 10 (.call 3 (.cons (.var 1) (.cons (.int 14) (.cons (.var 9) (.nil)))))) (
    .cons (.for [10, 8, 4, 13, 14, 15, 16, 17] (.var 11) (.rng1 (.int 4)) (.cons (.set 12 (.call 6 (.cons (.var 1) (.cons (.bin .add (.int 30) (.bin .mul (.int 7) (.var 11))) (.cons (.idx (.var 10) (.int 1)) (.cons (.var 3) (.nil))))))) (
      .cons (.set 13 (.call 7 (.cons (.var 2) (.cons (.var 12) (.nil))))) (
      .cons (.ife (.not (.call 17 (.cons (.var 13) (.cons (.call 18 (.cons (.var 2) (.cons (.var 12) (.nil)))) (.nil))))) (.cons (.ret (.bl false)) .nil) (.nil)) (
      .cons (.set 14 (.bin .mod (.idx (.var 1) (.bin .add (.int 50) (.var 11))) (.var 3))) (
      .cons (.set 15 (.call 7 (.cons (.var 2) (.cons (.bin .add (.bin .add (.slc (.var 12) (.int 0) (.var 14)) (.lst (.cons (.bin .mul (.tup (.cons (.int 1) (.nil))) (.var 9)) (.nil)))) (.slc (.var 12) (.bin .add (.var 14) (.int 1)) (.nil))) (.nil))))) (
      .cons (.ife (.cmp .gt (.bi .len (.cons (.comp (.var 17) (.rng1 (.var 9)) (.cmp .gt (.idx (.var 13) (.var 17)) (.idx (.var 15) (.var 17))) (.var 17)) (.nil))) (.int 0)) (.cons (.ret (.bl false)) .nil) (.nil)) (
      .cons (.set 16 (.slc (.var 12) (.int 0) (.bin .sub (.var 3) (.bin .mod (.bin .add (.var 3) (.int 1)) (.int 2))))) (
      .cons (.ife (.not (.call 17 (.cons (.call 7 (.cons (.bin .mul (.lst (.cons (.int 3) (.nil))) (.bi .len (.cons (.var 16) (.nil)))) (.cons (.var 16) (.nil)))) (.cons (.call 20 (.cons (.var 16) (.nil))) (.nil))))) (.cons (.ret (.bl false)) .nil) (.nil)) .nil))))))))) (
    .cons (.ret (.cmp .eq (.var 2) (.var 8))) .nil))))))))))))
  fr := true
def f__law_numbers : Fn where
  name := "_law_numbers"
  np := 3
  N := ["cell", "count", "limit", "found", "k", "mixed"]
  body := .cons (.set 3 (.lst (.nil))) (
    .cons (.ife (.cmp .ge (.var 0) (.bin .pow (.int 10) (.int 18))) (.cons (.for [3, 5] (.var 4) (.rng1 (.var 1)) (.cons (.app 3 (.bin .mod (.bi .int (.cons (.var 0) (.nil))) (.var 2))) (
        .cons (.set 0 (.bin .fdiv (.bi .int (.cons (.var 0) (.nil))) (.var 2))) .nil))) (
      .cons (.ret (.var 3)) .nil)) (.nil)) (
    .cons (.for [3, 5] (.var 4) (.rng1 (.var 1)) (.cons (.set 5 (.bin .mod (.bi .int (.cons (.bin .add (.bin .add (.bin .mul (.var 0) (.int 48271)) (.bin .mul (.var 4) (.int 69621))) (.int 7)) (.nil))) (.int 2147483647))) (
      .cons (.set 5 (.bin .mod (.bi .int (.cons (.bin .add (.bin .add (.bin .add (.bin .mul (.var 5) (.var 5)) (.bin .mul (.var 5) (.int 40692))) (.bin .mul (.var 4) (.int 16807))) (.int 11)) (.nil))) (.int 2147483399))) (
      .cons (.app 3 (.bin .mod (.bi .int (.cons (.bin .fdiv (.var 5) (.int 32)) (.nil))) (.var 2))) .nil)))) (
    .cons (.ret (.var 3)) .nil)))
  fr := true
def f__law_weights : Fn where
  name := "_law_weights"
  np := 3
  N := ["draws", "at", "most", "n", "found", "spot", "k"]
  body := .cons (.set 3 (.bin .add (.int 1) (.bin .mod (.idx (.var 0) (.var 1)) (.var 2)))) (
    .cons (.set 4 (.comp (.var 6) (.rng1 (.var 3)) (.nil) (.bin .mod (.idx (.var 0) (.bin .add (.bin .add (.var 1) (.int 1)) (.var 6))) (.idx (.lst (.cons (.int 2) (.cons (.int 5) (.cons (.int 20) (.cons (.int 1001) (.nil)))))) (.bin .mod (.idx (.var 0) (.bin .add (.var 1) (.int 10))) (.int 4)))))) (
    .cons (.ife (.cmp .eq (.bin .mod (.bi .sum (.cons (.var 4) (.nil))) (.int 2)) (.int 0)) (.cons (.set 5 (.bin .mod (.idx (.var 0) (.bin .add (.var 1) (.int 11))) (.var 3))) (
      .cons (.seti 4 (.var 5) (.bin .add (.idx (.var 4) (.var 5)) (.idx (.lst (.cons (.int 1) (.cons (.neg (.int 1)) (.nil)))) (.bi .int (.cons (.cmp .eq (.idx (.var 4) (.var 5)) (.int 1000)) (.nil)))))) .nil)) (.nil)) (
    .cons (.ret (.var 4)) .nil)))
  fr := true
def f__law_case : Fn where
  name := "_law_case"
  np := 3
  N := ["draws", "at", "m", "rows", "number", "answers"]
  body := .cons (.set 3 (.lst (.nil))) (
    .cons (.set 4 (.int 0)) (
    .cons (.for [4, 3] (.var 5) (.of (.call 4 (.cons (.var 2) (.nil)))) (.cons (.ife (.cmp .gt (.bin .mod (.idx (.var 0) (.bin .mod (.bin .add (.var 1) (.var 4)) (.bi .len (.cons (.var 0) (.nil))))) (.idx (.lst (.cons (.int 2) (.cons (.int 3) (.cons (.int 5) (.nil))))) (.bin .mod (.idx (.var 0) (.var 1)) (.int 3)))) (.int 0)) (.cons (.app 3 (.var 5)) .nil) (.nil)) (
      .cons (.set 4 (.bin .add (.var 4) (.int 1))) .nil))) (
    .cons (.ife (.cmp .eq (.bi .len (.cons (.var 3) (.nil))) (.int 0)) (.cons (.set 3 (.slc (.call 4 (.cons (.var 2) (.nil))) (.int 0) (.int 1))) .nil) (.nil)) (
    .cons (.ret (.tup (.cons (.var 2) (.cons (.var 3) (.nil))))) .nil))))
  fr := true
def f__law_answers : Fn where
  name := "_law_answers"
  np := 1
  N := ["m", "found", "k", "longer", "answers"]
  body := .cons (.set 1 (.lst (.cons (.tup (.nil)) (.nil)))) (
    .cons (.for [] (.var 2) (.rng1 (.var 0)) (.cons (.set 3 (.lst (.nil))) (
      .cons (.for [3] (.var 4) (.of (.var 1)) (.cons (.set 3 (.bin .add (.var 3) (.lst (.cons (.bin .add (.var 4) (.tup (.cons (.int 0) (.nil)))) (.cons (.bin .add (.var 4) (.tup (.cons (.int 1) (.nil)))) (.nil)))))) .nil)) (
      .cons (.set 1 (.var 3)) .nil)))) (
    .cons (.ret (.var 1)) .nil))
  fr := false
def f__law_cell : Fn where
  name := "_law_cell"
  np := 2
  N := ["script", "k"]
  body := .cons (.ife (.cmp .lt (.var 1) (.bi .len (.cons (.var 0) (.nil)))) (.cons (.ret (.bi .int (.cons (.idx (.var 0) (.var 1)) (.nil)))) .nil) (.nil)) (
    .cons (.ret (.int 0)) .nil)
  fr := true
def f__law_votes : Fn where
  name := "_law_votes"
  np := 4
  N := ["draws", "at", "rows", "jurors", "k"]
  body := .cons (.ret (.comp (.var 4) (.rng1 (.var 3)) (.nil) (.idx (.var 2) (.bin .mod (.idx (.var 0) (.bin .mod (.bin .add (.var 1) (.var 4)) (.bi .len (.cons (.var 0) (.nil))))) (.bi .len (.cons (.var 2) (.nil))))))) .nil
  fr := true
def f_weighted : Fn where
  name := "weighted"
  np := 2
  N := ["weights", "votes", "question"]
  body := .cons (.ret (.bi .tuple (.cons (.comp (.var 2) (.rng1 (.bi .len (.cons (.idx (.var 1) (.int 0)) (.nil)))) (.nil) (.bi .int (.cons (.call 8 (.cons (.var 0) (.cons (.call 10 (.cons (.var 1) (.cons (.var 2) (.nil)))) (.nil)))) (.nil)))) (.nil)))) .nil
  fr := true
def f_is_heavy : Fn where
  name := "is_heavy"
  np := 2
  N := ["weights", "jurors"]
  body := .cons (.ret (.cmp .gt (.bin .mul (.int 2) (.call 9 (.cons (.var 0) (.cons (.var 1) (.nil))))) (.bi .sum (.cons (.var 0) (.nil))))) .nil
  fr := true
def f_weight_of : Fn where
  name := "weight_of"
  np := 2
  N := ["weights", "jurors", "juror"]
  body := .cons (.ret (.bi .sum (.cons (.comp (.var 2) (.of (.var 1)) (.nil) (.idx (.var 0) (.var 2))) (.nil)))) .nil
  fr := true
def f_yes_sayers : Fn where
  name := "yes_sayers"
  np := 2
  N := ["votes", "question", "juror", "vote"]
  body := .cons (.ret (.comp (.tup [.var 2, .var 3]) (.enum (.var 0)) (.cmp .eq (.idx (.var 3) (.var 1)) (.int 1)) (.var 2))) .nil
  fr := true
def f__law_checked : Fn where
  name := "_law_checked"
  np := 1
  N := ["weights", "e"]
  body := .cons (.trx [⟨"InvalidWeight", some 1, .pick "other" "weight" (.and (.isi "JuryError") (.not (.isi "InvalidRow")))⟩, ⟨"WrongCount", some 1, .pick "other" "count" (.and (.isi "JuryError") (.not (.isi "InvalidWeight")))⟩] [("WrongCount", some (.str "count")), ("InvalidWeight", some (.str "weight"))] (.cons (.ret (.idx (.lst (.cons (.str "other") (.cons (.str "good") (.nil)))) (.bi .int (.cons (.cmp .is (.call 12 (.cons (.var 0) (.nil))) (.non)) (.nil))))) .nil)) .nil
  fr := false
def f_check_weights : Fn where
  name := "check_weights"
  np := 1
  N := ["weights", "weight"]
  body := .cons (.ife (.not (.chain .le .le (.int 1) (.bi .len (.cons (.var 0) (.nil))) (.gl 0))) (.cons (.rai "WrongCount") .nil) (.nil)) (
    .cons (.for [] (.var 1) (.of (.var 0)) (.cons (.ife (.not (.call 13 (.cons (.var 1) (.cons (.int 0) (.cons (.gl 1) (.nil)))))) (.cons (.rai "InvalidWeight") .nil) (.nil)) .nil)) (
    .cons (.ife (.cmp .eq (.bin .mod (.bi .sum (.cons (.var 0) (.nil))) (.int 2)) (.int 0)) (.cons (.rai "InvalidWeight") .nil) (.nil)) .nil))
  fr := true
def f_is_within : Fn where
  name := "is_within"
  np := 3
  N := ["value", "low", "high"]
  body := .cons (.ret (.and (.call 14 (.cons (.var 0) (.nil))) (.chain .le .le (.var 1) (.var 0) (.var 2)))) .nil
  fr := true
def f_is_whole : Fn where
  name := "is_whole"
  np := 1
  N := ["value"]
  body := .cons (.ret (.and (.isi .int (.var 0)) (.not (.isi .bool (.var 0))))) .nil
  fr := true
def f__law_word : Fn where
  name := "_law_word"
  np := 1
  N := ["weights", "weight"]
  body := .cons (.ife (.or (.cmp .lt (.bi .len (.cons (.var 0) (.nil))) (.int 1)) (.cmp .gt (.bi .len (.cons (.var 0) (.nil))) (.int 9))) (.cons (.ret (.str "count")) .nil) (.nil)) (
    .cons (.for [] (.var 1) (.of (.var 0)) (.cons (.ife (.or (.not (.isi .int (.var 1))) (.or (.isi .bool (.var 1)) (.or (.cmp .lt (.var 1) (.int 0)) (.cmp .gt (.var 1) (.int 1000))))) (.cons (.ret (.str "weight")) .nil) (.nil)) .nil)) (
    .cons (.ret (.idx (.lst (.cons (.str "weight") (.cons (.str "good") (.nil)))) (.bin .mod (.bi .sum (.cons (.var 0) (.nil))) (.int 2)))) .nil))
  fr := false
def f__law_sets : Fn where
  name := "_law_sets"
  np := 1
  N := ["count", "found", "k", "some"]
  body := .cons (.set 1 (.lst (.cons (.lst (.nil)) (.nil)))) (
    .cons (.for [1] (.var 2) (.rng1 (.var 0)) (.cons (.set 1 (.bin .add (.var 1) (.comp (.var 3) (.of (.var 1)) (.nil) (.bin .add (.var 3) (.lst (.cons (.var 2) (.nil))))))) .nil)) (
    .cons (.ret (.var 1)) .nil))
  fr := true
def f__law_same : Fn where
  name := "_law_same"
  np := 2
  N := ["told", "due", "k"]
  body := .cons (.ife (.isi .list (.var 1)) (.cons (.ife (.or (.not (.isi .list (.var 0))) (.cmp .ne (.bi .len (.cons (.var 0) (.nil))) (.bi .len (.cons (.var 1) (.nil))))) (.cons (.ret (.bl false)) .nil) (.nil)) .nil) (.cons (.ife (.isi .tuple (.var 1)) (.cons (.ife (.or (.not (.isi .tuple (.var 0))) (.cmp .ne (.bi .len (.cons (.var 0) (.nil))) (.bi .len (.cons (.var 1) (.nil))))) (.cons (.ret (.bl false)) .nil) (.nil)) .nil) (.cons (.ife (.cmp .is (.var 1) (.non)) (.cons (.ret (.cmp .is (.var 0) (.non))) .nil) (.cons (.ife (.isi .bool (.var 1)) (.cons (.ret (.and (.isi .bool (.var 0)) (.cmp .eq (.var 0) (.var 1)))) .nil) (.cons (.ife (.isi .int (.var 1)) (.cons (.ret (.and (.isi .int (.var 0)) (.and (.not (.isi .bool (.var 0))) (.cmp .eq (.var 0) (.var 1))))) .nil) (.cons (.ret (.and (.isi .str (.var 0)) (.cmp .eq (.var 0) (.var 1)))) .nil)) .nil)) .nil)) .nil)) .nil)) (
    .cons (.for [] (.var 2) (.rng1 (.bi .len (.cons (.var 1) (.nil)))) (.cons (.ife (.not (.call 17 (.cons (.idx (.var 0) (.var 2)) (.cons (.idx (.var 1) (.var 2)) (.nil))))) (.cons (.ret (.bl false)) .nil) (.nil)) .nil)) (
    .cons (.ret (.bl true)) .nil))
  fr := true
def f__law_weighted : Fn where
  name := "_law_weighted"
  np := 2
  N := ["weights", "votes", "found", "k", "j"]
  body := .cons (.set 2 (.lst (.nil))) (
    .cons (.for [2] (.var 3) (.rng1 (.bi .len (.cons (.idx (.var 1) (.int 0)) (.nil)))) (.cons (.app 2 (.bi .int (.cons (.call 19 (.cons (.var 0) (.cons (.comp (.var 4) (.rng1 (.bi .len (.cons (.var 1) (.nil)))) (.cmp .eq (.idx (.idx (.var 1) (.var 4)) (.var 3)) (.int 1)) (.var 4)) (.nil)))) (.nil)))) .nil)) (
    .cons (.ret (.bi .tuple (.cons (.var 2) (.nil)))) .nil))
  fr := true
def f__law_heavy : Fn where
  name := "_law_heavy"
  np := 2
  N := ["weights", "some", "juror"]
  body := .cons (.ret (.cmp .gt (.bin .mul (.int 2) (.bi .sum (.cons (.comp (.var 2) (.of (.var 1)) (.nil) (.idx (.var 0) (.var 2))) (.nil)))) (.bi .sum (.cons (.var 0) (.nil))))) .nil
  fr := true
def f_most_say : Fn where
  name := "most_say"
  np := 1
  N := ["votes", "question"]
  body := .cons (.ret (.bi .tuple (.cons (.comp (.var 1) (.rng1 (.bi .len (.cons (.idx (.var 0) (.int 0)) (.nil)))) (.nil) (.call 21 (.cons (.var 0) (.cons (.var 1) (.nil))))) (.nil)))) .nil
  fr := true
def f_most_on : Fn where
  name := "most_on"
  np := 2
  N := ["votes", "question"]
  body := .cons (.ret (.ite (.cmp .gt (.bin .mul (.int 2) (.call 22 (.cons (.var 0) (.cons (.var 1) (.nil))))) (.bi .len (.cons (.var 0) (.nil)))) (.int 1) (.int 0))) .nil
  fr := true
def f_yes_count : Fn where
  name := "yes_count"
  np := 2
  N := ["votes", "question", "vote"]
  body := .cons (.ret (.bi .sum (.cons (.comp (.var 2) (.of (.var 0)) (.nil) (.idx (.var 2) (.var 1))) (.nil)))) .nil
  fr := true
def fns : List Fn := [f_law, f__law_numbers, f__law_weights, f__law_case, f__law_answers, f__law_cell, f__law_votes, f_weighted, f_is_heavy, f_weight_of, f_yes_sayers, f__law_checked, f_check_weights, f_is_within, f_is_whole, f__law_word, f__law_sets, f__law_same, f__law_weighted, f__law_heavy, f_most_say, f_most_on, f_yes_count]
def bs : List Str := ["bool", "enumerate", "int", "isinstance", "len", "list", "range", "str", "sum", "tuple"]
def gls : List Tr := [.int 9, .int 1000]
end Lk17

/-! Plain: rows of answers. -/
namespace Jr.P
open PySem Jr
local macro_rules | `(tactic| walk_at "sx") => `(tactic| simp (disch := omega) only [evE_int, evE_bl, evE_non, evE_str, evE_var, evE_gl, evE_im, evE_bin, evE_neg, evE_not, evE_cmp, evE_chain, evE_and, evE_or, evE_ite, evE_tup, evE_lst, evE_idx, evE_slc, evE_rev, evE_call, evE_bi, evE_isi, evEs_nil, evEs_cons, evI_of, evI_rng1, evI_rng2, evI_enum, evI_zip, exec_set, exec_setp, exec_par, exec_seti, exec_aug, exec_app, exec_ife, exec_ret, exec_retn, exec_brk, exec_cnt, exec_pass, exec_expr, evC_def, tstT, parT, R.ok_bind, R.ok_out, R.ok_nox, wp_nx, wp_rt, wp_bk, wp_ct, wp_nil, wp_cons, later_nx, later_rt, later_bk, later_ct, later_n, later_r, later_r', later_b', later_c', List.getElem?_cons_zero, List.getElem?_cons_succ, Option.getD_some, Option.getD_none, ofO_some, List.set_cons_zero, List.set_cons_succ, bin_add, bin_sub, mul_r, mul_l, bin_fdiv, bin_mod, pow_18, cmp_eq, cmp_ne, cmp_lt, cmp_le, cmp_gt, cmp_ge, tru_bl, tru_int, neg_int, int_int, int_bl, abs_int, len_lst, len_tup, len_scr, max_int, min_int, list_lst, list_tup, tuple_lst, sum_ints, idx_ints, idx_scr, idx_3, idx_2, rng_1, rng_2, itemsT, bindP_var, bindP_tup, bindPs_nil, bindPs_cons, divmod_int, lsz_le, lsz_0, lsz_1, lsz_2, lsz_3, lsz_4, lsz_5, lsz_6, lsz_7, lsz_8, if_lt_SZ, if_le_SZ, ints'_snoc, List.length_append, ints'_length, List.length_nil, List.length_cons, Nat.reduceAdd, Bool.false_eq_true, if_true, if_false, reduceIte, intO, ne_eq, not_true_eq_false, not_false_eq_true, decide_true, decide_false, Bool.not_true, Bool.not_false, isi_int_lst, isi_int_tup, isi_int_int, isi_int_bl, isi_int_str, isi_int_non, isi_bool_lst, isi_bool_tup, isi_bool_int, isi_bool_bl, isi_bool_str, isi_bool_non, isi_str_lst, isi_str_tup, isi_str_int, isi_str_bl, isi_str_str, isi_str_non, isi_list_lst, isi_list_tup, isi_list_int, isi_list_bl, isi_list_str, isi_list_non, isi_tuple_lst, isi_tuple_tup, isi_tuple_int, isi_tuple_bl, isi_tuple_str, isi_tuple_non, is_lst, isnot_lst, is_tup, isnot_tup, is_int, isnot_int, is_bl, isnot_bl, is_str, isnot_str, is_non, isnot_non, setAt_ints, aug_add, aug_sub, ints'_get])
local macro_rules | `(tactic| walk_at "sxs") => `(tactic| simp (disch := omega) only [*, evE_int, evE_bl, evE_non, evE_str, evE_var, evE_gl, evE_im, evE_bin, evE_neg, evE_not, evE_cmp, evE_chain, evE_and, evE_or, evE_ite, evE_tup, evE_lst, evE_idx, evE_slc, evE_rev, evE_call, evE_bi, evE_isi, evEs_nil, evEs_cons, evI_of, evI_rng1, evI_rng2, evI_enum, evI_zip, exec_set, exec_setp, exec_par, exec_seti, exec_aug, exec_app, exec_ife, exec_ret, exec_retn, exec_brk, exec_cnt, exec_pass, exec_expr, evC_def, tstT, parT, R.ok_bind, R.ok_out, R.ok_nox, wp_nx, wp_rt, wp_bk, wp_ct, wp_nil, wp_cons, later_nx, later_rt, later_bk, later_ct, later_n, later_r, later_r', later_b', later_c', List.getElem?_cons_zero, List.getElem?_cons_succ, Option.getD_some, Option.getD_none, ofO_some, List.set_cons_zero, List.set_cons_succ, bin_add, bin_sub, mul_r, mul_l, bin_fdiv, bin_mod, pow_18, cmp_eq, cmp_ne, cmp_lt, cmp_le, cmp_gt, cmp_ge, tru_bl, tru_int, neg_int, int_int, int_bl, abs_int, len_lst, len_tup, len_scr, max_int, min_int, list_lst, list_tup, tuple_lst, sum_ints, idx_ints, idx_scr, idx_3, idx_2, rng_1, rng_2, itemsT, bindP_var, bindP_tup, bindPs_nil, bindPs_cons, divmod_int, lsz_le, lsz_0, lsz_1, lsz_2, lsz_3, lsz_4, lsz_5, lsz_6, lsz_7, lsz_8, if_lt_SZ, if_le_SZ, ints'_snoc, List.length_append, ints'_length, List.length_nil, List.length_cons, Nat.reduceAdd, Bool.false_eq_true, if_true, if_false, reduceIte, intO, ne_eq, not_true_eq_false, not_false_eq_true, decide_true, decide_false, Bool.not_true, Bool.not_false, isi_int_lst, isi_int_tup, isi_int_int, isi_int_bl, isi_int_str, isi_int_non, isi_bool_lst, isi_bool_tup, isi_bool_int, isi_bool_bl, isi_bool_str, isi_bool_non, isi_str_lst, isi_str_tup, isi_str_int, isi_str_bl, isi_str_str, isi_str_non, isi_list_lst, isi_list_tup, isi_list_int, isi_list_bl, isi_list_str, isi_list_non, isi_tuple_lst, isi_tuple_tup, isi_tuple_int, isi_tuple_bl, isi_tuple_str, isi_tuple_non, is_lst, isnot_lst, is_tup, isnot_tup, is_int, isnot_int, is_bl, isnot_bl, is_str, isnot_str, is_non, isnot_non, setAt_ints, aug_add, aug_sub, ints'_get])
theorem ite_ok {α : Type} {p : Prop} [Decidable p] {a b : α} : (if p then R.ok a else R.ok b) = R.ok (if p then a else b) := by split <;> rfl
theorem ite_bl {p : Prop} [Decidable p] {a b : Bool} : (if p then Tr.bl a else Tr.bl b) = Tr.bl (if p then a else b) := by split <;> rfl
theorem bin_add_lst {a b : List Tr} (h : a.length + b.length ≤ 16777216) : binT .add (.lst a) (.lst b) = .ok (.lst (a ++ b)) := if_pos h
theorem bin_add_tup {a b : List Tr} (h : a.length + b.length ≤ 16777216) : binT .add (.tup a) (.tup b) = .ok (.tup (a ++ b)) := if_pos h
/-- a comprehension over a list -/
theorem comp_lst {c : Ctx} {v : Nat} {it : It} {e : Ex} {ρ : Env} {xs : List Tr} (g : Tr → Tr) (hx : evI c it ρ = .ok xs) (hz : xs.length ≤ 16777216)
    (h : ∀ x ∈ xs, evE c e ((ρ.set v none).set v (some x)) = .ok (g x)) : evE c (.comp (.var v) it .nil e) ρ = .ok (.lst (xs.map g)) := by
  rw [evE_comp, hx, R.ok_bind]
  rw [compL_map (g := g) fun x hx => ?_]
  · rw [R.ok_bind, lsz_le]
    rw [List.length_map]
    exact hz
  · show ((bindP (.var v) x (ρ.set v none)).bind _).nox = _
    rw [bindP_var, R.ok_bind, tst_nil, R.ok_bind, if_pos rfl, h x hx]
    rfl
theorem compL_filter {f : Tr → R (Option Tr)} {g : Tr → Tr} {p : Tr → Bool} : ∀ {xs : List Tr}, (∀ x ∈ xs, f x = .ok (if p x then some (g x) else none)) → compL f xs = .ok ((xs.filter p).map g)
  | [], _ => rfl
  | x :: xs, h => by
    rw [compL, h x List.mem_cons_self, R.ok_bind, compL_filter fun y hy => h y (List.mem_cons_of_mem _ hy), R.ok_bind, List.filter_cons]
    cases p x <;> rfl
/-- with a test -/
theorem comp_if {c : Ctx} {v : Nat} {it : It} {d e : Ex} {ρ : Env} {xs : List Tr} (g : Tr → Tr) (p : Tr → Bool) (hx : evI c it ρ = .ok xs) (hz : xs.length ≤ 16777216)
    (hd : ∀ x ∈ xs, evC c d ((ρ.set v none).set v (some x)) = .ok (p x)) (h : ∀ x ∈ xs, p x = true → evE c e ((ρ.set v none).set v (some x)) = .ok (g x)) : evE c (.comp (.var v) it d e) ρ = .ok (.lst ((xs.filter p).map g)) := by
  rw [evE_comp, hx, R.ok_bind]
  rw [compL_filter (g := g) (p := p) fun x hx => ?_]
  · rw [R.ok_bind, lsz_le]
    rw [List.length_map]
    exact Nat.le_trans (List.length_filter_le _ _) hz
  · show ((bindP (.var v) x (ρ.set v none)).bind _).nox = _
    rw [bindP_var, R.ok_bind]
    have hd' : tstT d (evE c d ((ρ.set v none).set v (some x))) = .ok (p x) := hd x hx
    show ((tstT d (evE c d ((ρ.set v none).set v (some x)))).bind _).nox = _
    rw [hd', R.ok_bind]
    cases hp : p x with
    | false => rfl
    | true =>
      rw [if_pos rfl, h x hx hp]
      rfl
def rowT (r : List Int) : Tr := .tup (ints' r)
theorem ints'_inj {a b : List Int} (h : ints' a = ints' b) : a = b := by
  have h1 := intsO_ints a
  rw [h, intsO_ints] at h1
  exact (Option.some.inj h1).symm
theorem rowT_inj {a b : List Int} (h : rowT a = rowT b) : a = b := ints'_inj (Tr.tup.inj h)
/-- rows of m answers, each 0 or 1 -/
def IsRow (m : Nat) (r : List Int) : Prop := r.length = m ∧ ∀ x ∈ r, x = 0 ∨ x = 1
/-- all rows of m answers, each once -/
structure AllRows (m : Nat) (rs : List (List Int)) : Prop where
  nd : rs.Nodup
  row : ∀ r ∈ rs, IsRow m r
  all : ∀ r, IsRow m r → r ∈ rs
  len : rs.length = 2 ^ m
theorem AllRows.zero : AllRows 0 [[]] := by
  refine ⟨by simp, fun r hr => ?_, fun r hr => ?_, rfl⟩
  · rw [List.mem_singleton.mp hr]
    exact ⟨rfl, fun x hx => nomatch hx⟩
  · rw [List.length_eq_zero_iff.mp hr.1]
    exact List.mem_singleton.mpr rfl
theorem row_snoc {m : Nat} {r : List Int} {x : Int} (h : IsRow m r) (hx : x = 0 ∨ x = 1) : IsRow (m + 1) (r ++ [x]) := by
  refine ⟨by rw [List.length_append, h.1]; rfl, fun y hy => ?_⟩
  rcases List.mem_append.mp hy with hy | hy
  · exact h.2 y hy
  · rw [List.mem_singleton.mp hy]
    exact hx
theorem row_split {m : Nat} {r : List Int} (h : IsRow (m + 1) r) : ∃ s x, IsRow m s ∧ (x = 0 ∨ x = 1) ∧ r = s ++ [x] := by
  have hne : r ≠ [] := fun e => by
    have := h.1
    rw [e] at this
    cases this
  refine ⟨r.dropLast, r.getLast hne, ⟨by rw [List.length_dropLast, h.1]; rfl, fun x hx => h.2 x (List.mem_of_mem_take (by rw [← List.dropLast_eq_take]; exact hx))⟩, h.2 _ (List.getLast_mem hne), (List.dropLast_concat_getLast hne).symm⟩
theorem AllRows.succ {m : Nat} {rs : List (List Int)} (h : AllRows m rs) : AllRows (m + 1) (rs.map (· ++ [0]) ++ rs.map (· ++ [1])) := by
  have inj : ∀ {a b : List Int} {x y : Int}, a ++ [x] = b ++ [y] → a = b ∧ x = y := fun {a b x y} e => by
    have := List.append_inj' e rfl
    exact ⟨this.1, by simpa using this.2⟩
  refine ⟨?_, fun r hr => ?_, fun r hr => ?_, ?_⟩
  · rw [List.nodup_append]
    refine ⟨?_, ?_, fun a ha b hb e => ?_⟩
    · exact List.Pairwise.map _ (fun a b hab e => hab (inj e).1) h.nd
    · exact List.Pairwise.map _ (fun a b hab e => hab (inj e).1) h.nd
    · obtain ⟨s, _, rfl⟩ := List.mem_map.mp ha
      obtain ⟨t, _, rfl⟩ := List.mem_map.mp hb
      have := (inj e).2
      omega
  · rcases List.mem_append.mp hr with hr | hr
    · obtain ⟨s, hs, rfl⟩ := List.mem_map.mp hr
      exact row_snoc (h.row s hs) (.inl rfl)
    · obtain ⟨s, hs, rfl⟩ := List.mem_map.mp hr
      exact row_snoc (h.row s hs) (.inr rfl)
  · obtain ⟨s, x, hs, hx, rfl⟩ := row_split hr
    rcases hx with rfl | rfl
    · exact List.mem_append_left _ (List.mem_map.mpr ⟨s, h.all s hs, rfl⟩)
    · exact List.mem_append_right _ (List.mem_map.mpr ⟨s, h.all s hs, rfl⟩)
  · rw [List.length_append, List.length_map, List.length_map, h.len, Nat.pow_succ]
    omega
theorem AllRows.perm {m : Nat} {rs rs' : List (List Int)} (h : AllRows m rs) (p : rs'.Perm rs) : AllRows m rs' :=
  ⟨p.nodup_iff.mpr h.nd, fun r hr => h.row r (p.mem_iff.mp hr), fun r hr => p.mem_iff.mpr (h.all r hr), p.length_eq.trans h.len⟩
end Jr.P

/-! Plain: all answers; cases. -/
namespace Jr.P
open PySem Jr
local macro_rules | `(tactic| walk_at "sx") => `(tactic| simp (disch := omega) only [evE_int, evE_bl, evE_non, evE_str, evE_var, evE_gl, evE_im, evE_bin, evE_neg, evE_not, evE_cmp, evE_chain, evE_and, evE_or, evE_ite, evE_tup, evE_lst, evE_idx, evE_slc, evE_rev, evE_call, evE_bi, evE_isi, evEs_nil, evEs_cons, evI_of, evI_rng1, evI_rng2, evI_enum, evI_zip, exec_set, exec_setp, exec_par, exec_seti, exec_aug, exec_app, exec_ife, exec_ret, exec_retn, exec_brk, exec_cnt, exec_pass, exec_expr, evC_def, tstT, parT, R.ok_bind, R.ok_out, R.ok_nox, wp_nx, wp_rt, wp_bk, wp_ct, wp_nil, wp_cons, later_nx, later_rt, later_bk, later_ct, later_n, later_r, later_r', later_b', later_c', List.getElem?_cons_zero, List.getElem?_cons_succ, Option.getD_some, Option.getD_none, ofO_some, List.set_cons_zero, List.set_cons_succ, bin_add, bin_sub, mul_r, mul_l, bin_fdiv, bin_mod, pow_18, cmp_eq, cmp_ne, cmp_lt, cmp_le, cmp_gt, cmp_ge, tru_bl, tru_int, neg_int, int_int, int_bl, abs_int, len_lst, len_tup, len_scr, max_int, min_int, list_lst, list_tup, tuple_lst, sum_ints, idx_ints, idx_scr, idx_3, idx_2, rng_1, rng_2, itemsT, bindP_var, bindP_tup, bindPs_nil, bindPs_cons, divmod_int, lsz_le, lsz_0, lsz_1, lsz_2, lsz_3, lsz_4, lsz_5, lsz_6, lsz_7, lsz_8, if_lt_SZ, if_le_SZ, ints'_snoc, List.length_append, ints'_length, List.length_nil, List.length_cons, Nat.reduceAdd, Bool.false_eq_true, if_true, if_false, reduceIte, intO, ne_eq, not_true_eq_false, not_false_eq_true, decide_true, decide_false, Bool.not_true, Bool.not_false, isi_int_lst, isi_int_tup, isi_int_int, isi_int_bl, isi_int_str, isi_int_non, isi_bool_lst, isi_bool_tup, isi_bool_int, isi_bool_bl, isi_bool_str, isi_bool_non, isi_str_lst, isi_str_tup, isi_str_int, isi_str_bl, isi_str_str, isi_str_non, isi_list_lst, isi_list_tup, isi_list_int, isi_list_bl, isi_list_str, isi_list_non, isi_tuple_lst, isi_tuple_tup, isi_tuple_int, isi_tuple_bl, isi_tuple_str, isi_tuple_non, is_lst, isnot_lst, is_tup, isnot_tup, is_int, isnot_int, is_bl, isnot_bl, is_str, isnot_str, is_non, isnot_non, setAt_ints, aug_add, aug_sub, ints'_get])
local macro_rules | `(tactic| walk_at "sxs") => `(tactic| simp (disch := omega) only [*, evE_int, evE_bl, evE_non, evE_str, evE_var, evE_gl, evE_im, evE_bin, evE_neg, evE_not, evE_cmp, evE_chain, evE_and, evE_or, evE_ite, evE_tup, evE_lst, evE_idx, evE_slc, evE_rev, evE_call, evE_bi, evE_isi, evEs_nil, evEs_cons, evI_of, evI_rng1, evI_rng2, evI_enum, evI_zip, exec_set, exec_setp, exec_par, exec_seti, exec_aug, exec_app, exec_ife, exec_ret, exec_retn, exec_brk, exec_cnt, exec_pass, exec_expr, evC_def, tstT, parT, R.ok_bind, R.ok_out, R.ok_nox, wp_nx, wp_rt, wp_bk, wp_ct, wp_nil, wp_cons, later_nx, later_rt, later_bk, later_ct, later_n, later_r, later_r', later_b', later_c', List.getElem?_cons_zero, List.getElem?_cons_succ, Option.getD_some, Option.getD_none, ofO_some, List.set_cons_zero, List.set_cons_succ, bin_add, bin_sub, mul_r, mul_l, bin_fdiv, bin_mod, pow_18, cmp_eq, cmp_ne, cmp_lt, cmp_le, cmp_gt, cmp_ge, tru_bl, tru_int, neg_int, int_int, int_bl, abs_int, len_lst, len_tup, len_scr, max_int, min_int, list_lst, list_tup, tuple_lst, sum_ints, idx_ints, idx_scr, idx_3, idx_2, rng_1, rng_2, itemsT, bindP_var, bindP_tup, bindPs_nil, bindPs_cons, divmod_int, lsz_le, lsz_0, lsz_1, lsz_2, lsz_3, lsz_4, lsz_5, lsz_6, lsz_7, lsz_8, if_lt_SZ, if_le_SZ, ints'_snoc, List.length_append, ints'_length, List.length_nil, List.length_cons, Nat.reduceAdd, Bool.false_eq_true, if_true, if_false, reduceIte, intO, ne_eq, not_true_eq_false, not_false_eq_true, decide_true, decide_false, Bool.not_true, Bool.not_false, isi_int_lst, isi_int_tup, isi_int_int, isi_int_bl, isi_int_str, isi_int_non, isi_bool_lst, isi_bool_tup, isi_bool_int, isi_bool_bl, isi_bool_str, isi_bool_non, isi_str_lst, isi_str_tup, isi_str_int, isi_str_bl, isi_str_str, isi_str_non, isi_list_lst, isi_list_tup, isi_list_int, isi_list_bl, isi_list_str, isi_list_non, isi_tuple_lst, isi_tuple_tup, isi_tuple_int, isi_tuple_bl, isi_tuple_str, isi_tuple_non, is_lst, isnot_lst, is_tup, isnot_tup, is_int, isnot_int, is_bl, isnot_bl, is_str, isnot_str, is_non, isnot_non, setAt_ints, aug_add, aug_sub, ints'_get])
theorem alikeAll_ints : ∀ (a b : List Int), PySem.W.alikeAll (toPys (ints' a)) (toPys (ints' b)) = true
  | [], [] => by rw [show toPys (ints' []) = [] from rfl]; rfl
  | [], y :: b => by first | rfl | (rw [PySem.W.alikeAll])
  | x :: a, [] => by first | rfl | (rw [PySem.W.alikeAll])
  | x :: a, y :: b => by
    have e1 : toPys (ints' (x :: a)) = .int x :: toPys (ints' a) := rfl
    have e2 : toPys (ints' (y :: b)) = .int y :: toPys (ints' b) := rfl
    rw [e1, e2, PySem.W.alikeAll, alikeAll_ints a b, PySem.W.alike]
    rfl
theorem alk_rows (a b : List Int) : alk (rowT a) (rowT b) = true := by
  show PySem.W.alike (.tuple (toPys (ints' a))) (.tuple (toPys (ints' b))) = true
  rw [PySem.W.alike]
  exact alikeAll_ints a b
theorem sh_row (r : List Int) : sh (rowT r) = true := shBs_of fun t ht => by
  unfold ints' at ht
  obtain ⟨i, _, rfl⟩ := List.mem_map.mp ht
  rfl
/-- sorted rows -/
theorem sorted_rows {rs : List (List Int)} (hne : ∀ r ∈ rs, r ≠ []) : ∃ rs' : List (List Int), rs'.Perm rs ∧ biT .sorted [.lst (rs.map rowT)] = .ok (.lst (rs'.map rowT)) := by
  have hs : srtOk (rs.map rowT) = true := by
    unfold srtOk
    simp only [Bool.and_eq_true, Bool.or_eq_true, List.all_eq_true]
    refine ⟨⟨fun t ht u hu => ?_, .inl (.inl fun t ht => ?_)⟩, fun t ht => ?_⟩
    · obtain ⟨a, _, rfl⟩ := List.mem_map.mp ht
      obtain ⟨b, _, rfl⟩ := List.mem_map.mp hu
      exact alk_rows a b
    · obtain ⟨a, ha, rfl⟩ := List.mem_map.mp ht
      cases a with
      | nil => exact absurd rfl (hne _ ha)
      | cons x xs => rfl
    · obtain ⟨a, _, rfl⟩ := List.mem_map.mp ht
      exact sh_row a
  have hp : (srtT (rs.map rowT)).Perm (rs.map rowT) := List.mergeSort_perm _ _
  obtain ⟨rs', h1, h2⟩ : ∃ rs' : List (List Int), rs'.Perm rs ∧ rs'.map rowT = srtT (rs.map rowT) := by
    have key : ∀ (l : List Tr), l.Perm (rs.map rowT) → ∃ rs' : List (List Int), rs'.map rowT = l := fun l hl => by
      have hm : ∀ t ∈ l, ∃ r, rowT r = t := fun t ht => by
        obtain ⟨r, _, e⟩ := List.mem_map.mp (hl.mem_iff.mp ht)
        exact ⟨r, e⟩
      clear hl
      induction l with
      | nil => exact ⟨[], rfl⟩
      | cons t l ih =>
        obtain ⟨r, hr⟩ := hm t List.mem_cons_self
        obtain ⟨q, hq⟩ := ih fun t ht => hm t (List.mem_cons_of_mem _ ht)
        exact ⟨r :: q, by rw [List.map_cons, hr, hq]⟩
    obtain ⟨rs', h⟩ := key _ hp
    refine ⟨rs', ?_, h⟩
    rw [← h] at hp
    have inv : ∀ l : List (List Int), (l.map rowT).map (fun t => match t with
        | .tup ts => (intsO ts).getD []
        | _ => []) = l := fun l => by
      rw [List.map_map]
      conv => rhs; rw [← List.map_id l]
      refine List.map_congr_left fun r _ => ?_
      show (intsO (ints' r)).getD [] = r
      rw [intsO_ints]
      rfl
    have q := hp.map (fun t => match t with
        | .tup ts => (intsO ts).getD []
        | _ => [])
    rw [inv, inv] at q
    exact q
  refine ⟨rs', h1, ?_⟩
  show (if srtOk (rs.map rowT) = true then R.ok (Tr.lst (srtT (rs.map rowT))) else .no) = _
  rw [if_pos hs, h2]
def F_answers : Fn where
  name := "_law_answers"
  np := 1
  N := ["m", "found", "k", "one"]
  body := .cons (.set 1 (.lst (.cons (.tup (.nil)) (.nil)))) (
    .cons (.for [1] (.var 2) (.rng1 (.var 0)) (.cons (.set 1 (.bin .add (.comp (.var 3) (.of (.var 1)) (.nil) (.bin .add (.var 3) (.tup (.cons (.int 0) (.nil))))) (.comp (.var 3) (.of (.var 1)) (.nil) (.bin .add (.var 3) (.tup (.cons (.int 1) (.nil))))))) .nil)) (
    .cons (.ret (.bi .sorted (.cons (.var 1) (.nil)))) .nil))
  fr := true
section
variable {fs : List Fn} {gl : List Tr} {fuel k f : Nat}
theorem answers_ok (hf : fs[f]? = some F_answers) (m : Int) (h0 : 1 ≤ m) (h1 : m ≤ 10) : ∃ rs, AllRows m.toNat rs ∧ runF fs gl fuel (k + 1) f [.int m] = .ok (.lst (rs.map rowT)) := by
  have key : ∃ t, runF fs gl fuel (k + 1) f [.int m] = .ok t ∧ ∃ rs, AllRows m.toNat rs ∧ t = .lst (rs.map rowT) := by
    refine run_of _ hf rfl ?_
    show wp _ (execs _ _ [some (.int m), none, none, none])
    simp only [F_answers]
    walk_at "sx"
    refine wp_for (xs := rngL 0 m) (by walk_at "sx") (fun i ρ => ∃ (rs : List (List Int)) (u : Option Tr), AllRows i rs ∧ ρ = [some (.int m), some (.lst (rs.map rowT)), u, none]) ⟨[[]], none, .zero, rfl⟩ (fun i hi ρ hI => ?_) fun ρ hI => ?_
    · obtain ⟨rs, u, hr, rfl⟩ := hI
      rw [rngL_length] at hi
      simp only [rngL_get]
      have hl : rs.length ≤ 1024 := by
        rw [hr.len]
        calc 2 ^ i ≤ 2 ^ 10 := Nat.pow_le_pow_right (by omega) (by omega)
          _ = 1024 := rfl
      have hc : ∀ (x : Int) (c : Ctx) (ρ : Env) (hρ : ρ = [some (.int m), some (.lst (rs.map rowT)), some (.int (0 + (i : Int))), none]), evE c (.comp (.var 3) (.of (.var 1)) (.nil) (.bin .add (.var 3) (.tup (.cons (.int x) (.nil))))) ρ = .ok (.lst ((rs.map (· ++ [x])).map rowT)) := fun x c ρ hρ => by
        subst hρ
        rw [comp_lst (xs := rs.map rowT) (fun t => match t with
          | .tup ts => .tup (ts ++ [.int x])
          | t => t) (by walk_at "sx") (by rw [List.length_map]; omega) fun t ht => ?_]
        · rw [List.map_map, List.map_map]
          congr 2
          refine List.map_congr_left fun r _ => ?_
          show Tr.tup (ints' r ++ [.int x]) = Tr.tup (ints' (r ++ [x]))
          rw [ints'_snoc]
        · obtain ⟨r, hr', rfl⟩ := List.mem_map.mp ht
          have hlr : r.length = i := (hr.row r hr').1
          have ea : binT .add (.tup (ints' r)) (.tup [.int x]) = .ok (.tup (ints' r ++ [.int x])) := bin_add_tup (by rw [ints'_length, hlr]; simp; omega)
          show evE c _ ([some (.int m), some (.lst (rs.map rowT)), some (.int (0 + (i : Int))), none].set 3 none |>.set 3 (some (.tup (ints' r)))) = _
          walk_at "sx"
          simp only [ea]
          rfl
      walk_at "sx"
      rw [hc 0 _ _ rfl, hc 1 _ _ rfl]
      simp only [R.ok_bind]
      rw [bin_add_lst (by simp; omega), ← List.map_append]
      walk_at "sx"
      exact ⟨_, _, hr.succ, rfl⟩
    · obtain ⟨rs, u, hr, rfl⟩ := hI
      rw [rngL_length] at hr
      obtain ⟨rs', hp, hs⟩ := sorted_rows (rs := rs) fun r hr' e => by
        have := (hr.row r hr').1
        rw [e] at this
        have h : (0 : Nat) = (m - 0).toNat := this
        omega
      walk_at "sx"
      simp only [hs]
      walk_at "sx"
      exact ⟨rs', by rw [Int.sub_zero] at hr; exact hr.perm hp, rfl⟩
  obtain ⟨t, h, rs, hd, rfl⟩ := key
  exact ⟨rs, hd, h⟩
end
end Jr.P

/-! Plain: cases. -/
namespace Jr.P
open PySem Jr
local macro_rules | `(tactic| walk_at "sx") => `(tactic| simp (disch := omega) only [evE_int, evE_bl, evE_non, evE_str, evE_var, evE_gl, evE_im, evE_bin, evE_neg, evE_not, evE_cmp, evE_chain, evE_and, evE_or, evE_ite, evE_tup, evE_lst, evE_idx, evE_slc, evE_rev, evE_call, evE_bi, evE_isi, evEs_nil, evEs_cons, evI_of, evI_rng1, evI_rng2, evI_enum, evI_zip, exec_set, exec_setp, exec_par, exec_seti, exec_aug, exec_app, exec_ife, exec_ret, exec_retn, exec_brk, exec_cnt, exec_pass, exec_expr, evC_def, tstT, parT, R.ok_bind, R.ok_out, R.ok_nox, wp_nx, wp_rt, wp_bk, wp_ct, wp_nil, wp_cons, later_nx, later_rt, later_bk, later_ct, later_n, later_r, later_r', later_b', later_c', List.getElem?_cons_zero, List.getElem?_cons_succ, Option.getD_some, Option.getD_none, ofO_some, List.set_cons_zero, List.set_cons_succ, bin_add, bin_sub, mul_r, mul_l, bin_fdiv, bin_mod, pow_18, cmp_eq, cmp_ne, cmp_lt, cmp_le, cmp_gt, cmp_ge, tru_bl, tru_int, neg_int, int_int, int_bl, abs_int, len_lst, len_tup, len_scr, max_int, min_int, list_lst, list_tup, tuple_lst, sum_ints, idx_ints, idx_scr, idx_3, idx_2, rng_1, rng_2, itemsT, bindP_var, bindP_tup, bindPs_nil, bindPs_cons, divmod_int, lsz_le, lsz_0, lsz_1, lsz_2, lsz_3, lsz_4, lsz_5, lsz_6, lsz_7, lsz_8, if_lt_SZ, if_le_SZ, ints'_snoc, List.length_append, ints'_length, List.length_nil, List.length_cons, Nat.reduceAdd, Bool.false_eq_true, if_true, if_false, reduceIte, intO, ne_eq, not_true_eq_false, not_false_eq_true, decide_true, decide_false, Bool.not_true, Bool.not_false, isi_int_lst, isi_int_tup, isi_int_int, isi_int_bl, isi_int_str, isi_int_non, isi_bool_lst, isi_bool_tup, isi_bool_int, isi_bool_bl, isi_bool_str, isi_bool_non, isi_str_lst, isi_str_tup, isi_str_int, isi_str_bl, isi_str_str, isi_str_non, isi_list_lst, isi_list_tup, isi_list_int, isi_list_bl, isi_list_str, isi_list_non, isi_tuple_lst, isi_tuple_tup, isi_tuple_int, isi_tuple_bl, isi_tuple_str, isi_tuple_non, is_lst, isnot_lst, is_tup, isnot_tup, is_int, isnot_int, is_bl, isnot_bl, is_str, isnot_str, is_non, isnot_non, setAt_ints, aug_add, aug_sub, ints'_get, ite_ok, ite_bl])
local macro_rules | `(tactic| walk_at "sxs") => `(tactic| simp (disch := omega) only [*, evE_int, evE_bl, evE_non, evE_str, evE_var, evE_gl, evE_im, evE_bin, evE_neg, evE_not, evE_cmp, evE_chain, evE_and, evE_or, evE_ite, evE_tup, evE_lst, evE_idx, evE_slc, evE_rev, evE_call, evE_bi, evE_isi, evEs_nil, evEs_cons, evI_of, evI_rng1, evI_rng2, evI_enum, evI_zip, exec_set, exec_setp, exec_par, exec_seti, exec_aug, exec_app, exec_ife, exec_ret, exec_retn, exec_brk, exec_cnt, exec_pass, exec_expr, evC_def, tstT, parT, R.ok_bind, R.ok_out, R.ok_nox, wp_nx, wp_rt, wp_bk, wp_ct, wp_nil, wp_cons, later_nx, later_rt, later_bk, later_ct, later_n, later_r, later_r', later_b', later_c', List.getElem?_cons_zero, List.getElem?_cons_succ, Option.getD_some, Option.getD_none, ofO_some, List.set_cons_zero, List.set_cons_succ, bin_add, bin_sub, mul_r, mul_l, bin_fdiv, bin_mod, pow_18, cmp_eq, cmp_ne, cmp_lt, cmp_le, cmp_gt, cmp_ge, tru_bl, tru_int, neg_int, int_int, int_bl, abs_int, len_lst, len_tup, len_scr, max_int, min_int, list_lst, list_tup, tuple_lst, sum_ints, idx_ints, idx_scr, idx_3, idx_2, rng_1, rng_2, itemsT, bindP_var, bindP_tup, bindPs_nil, bindPs_cons, divmod_int, lsz_le, lsz_0, lsz_1, lsz_2, lsz_3, lsz_4, lsz_5, lsz_6, lsz_7, lsz_8, if_lt_SZ, if_le_SZ, ints'_snoc, List.length_append, ints'_length, List.length_nil, List.length_cons, Nat.reduceAdd, Bool.false_eq_true, if_true, if_false, reduceIte, intO, ne_eq, not_true_eq_false, not_false_eq_true, decide_true, decide_false, Bool.not_true, Bool.not_false, isi_int_lst, isi_int_tup, isi_int_int, isi_int_bl, isi_int_str, isi_int_non, isi_bool_lst, isi_bool_tup, isi_bool_int, isi_bool_bl, isi_bool_str, isi_bool_non, isi_str_lst, isi_str_tup, isi_str_int, isi_str_bl, isi_str_str, isi_str_non, isi_list_lst, isi_list_tup, isi_list_int, isi_list_bl, isi_list_str, isi_list_non, isi_tuple_lst, isi_tuple_tup, isi_tuple_int, isi_tuple_bl, isi_tuple_str, isi_tuple_non, is_lst, isnot_lst, is_tup, isnot_tup, is_int, isnot_int, is_bl, isnot_bl, is_str, isnot_str, is_non, isnot_non, setAt_ints, aug_add, aug_sub, ints'_get, ite_ok, ite_bl])
def F_case (fn fa fc : Nat) : Fn where
  name := "_law_case"
  np := 3
  N := ["script", "at", "most", "draws", "m", "every", "kind", "found", "k", "row", "good", "j", "one", "other"]
  body := .cons (.set 3 (.call fn (.cons (.call fc (.cons (.var 0) (.cons (.var 1) (.nil)))) (.cons (.int 80) (.cons (.int 5040) (.nil)))))) (
    .cons (.set 4 (.bin .add (.int 1) (.bin .mod (.idx (.var 3) (.int 0)) (.var 2)))) (
    .cons (.set 5 (.call fa (.cons (.var 4) (.nil)))) (
    .cons (.set 6 (.bin .mod (.idx (.var 3) (.int 1)) (.int 5))) (
    .cons (.set 7 (.lst (.nil))) (
    .cons (.for [7, 6, 5, 3, 10, 12, 13] (.var 8) (.rng1 (.bi .len (.cons (.var 5) (.nil)))) (.cons (.set 9 (.idx (.var 5) (.var 8))) (
      .cons (.set 10 (.bl true)) (
      .cons (.ife (.cmp .eq (.var 6) (.int 0)) (.cons (.set 10 (.cmp .eq (.bin .mod (.idx (.var 3) (.bin .add (.int 2) (.bin .mod (.var 8) (.int 64)))) (.int 3)) (.int 0))) .nil) (.cons (.ife (.cmp .eq (.var 6) (.int 1)) (.cons (.set 10 (.cmp .gt (.bin .mod (.idx (.var 3) (.bin .add (.int 2) (.bin .mod (.var 8) (.int 64)))) (.int 5)) (.int 0))) .nil) (.cons (.ife (.cmp .eq (.var 6) (.int 2)) (.cons (.for [10, 7, 6, 5, 3, 12, 13] (.var 11) (.rng1 (.bin .mod (.idx (.var 3) (.int 66)) (.int 5))) (.cons (.set 12 (.bin .mod (.idx (.var 3) (.bin .add (.int 67) (.var 11))) (.var 4))) (
              .cons (.set 13 (.bin .mod (.bin .fdiv (.idx (.var 3) (.bin .add (.int 67) (.var 11))) (.int 6)) (.var 4))) (
              .cons (.ife (.and (.cmp .eq (.idx (.var 9) (.var 12)) (.bin .mod (.bin .fdiv (.idx (.var 3) (.bin .add (.int 67) (.var 11))) (.int 36)) (.int 2))) (.cmp .eq (.idx (.var 9) (.var 13)) (.bin .mod (.bin .fdiv (.idx (.var 3) (.bin .add (.int 67) (.var 11))) (.int 72)) (.int 2)))) (.cons (.set 10 (.bl false)) .nil) (.nil)) .nil)))) .nil) (.cons (.ife (.cmp .eq (.var 6) (.int 3)) (.cons (.set 10 (.cmp .eq (.idx (.var 9) (.bin .sub (.var 4) (.int 1))) (.bi .minl (.cons (.slc (.var 9) (.int 0) (.bi .max2 (.cons (.int 1) (.cons (.bin .sub (.var 4) (.int 1)) (.nil))))) (.nil))))) .nil) (.cons (.set 10 (.or (.cmp .eq (.bin .mod (.bi .sum (.cons (.var 9) (.nil))) (.int 2)) (.bin .mod (.idx (.var 3) (.int 2)) (.int 2))) (.and (.cmp .eq (.bin .mod (.idx (.var 3) (.int 3)) (.int 2)) (.int 0)) (.cmp .eq (.var 8) (.bin .mod (.idx (.var 3) (.int 4)) (.bi .len (.cons (.var 5) (.nil)))))))) .nil)) .nil)) .nil)) .nil)) (
      .cons (.ife (.var 10) (.cons (.app 7 (.var 9)) .nil) (.nil)) .nil))))) (
    .cons (.ife (.cmp .eq (.bi .len (.cons (.var 7) (.nil))) (.int 0)) (.cons (.app 7 (.idx (.var 5) (.bin .mod (.idx (.var 3) (.int 72)) (.bi .len (.cons (.var 5) (.nil)))))) .nil) (.nil)) (
    .cons (.ret (.tup (.cons (.var 4) (.cons (.var 7) (.nil))))) .nil)))))))
  fr := true
theorem sum_tup_ints {xs : List Int} : biT .sum [.tup (ints' xs)] = .ok (.int xs.sum) := by
  show (ofO (intsO (ints' xs))).bind (fun ns => R.ok (Tr.int ns.sum)) = _
  rw [intsO_ints]
  rfl
theorem idx_row {r : List Int} {i : Int} (h0 : 0 ≤ i) (h : i < r.length) : idxT (rowT r) (.int i) = .ok (.int (r.getD i.toNat 0)) := by
  unfold rowT
  rw [idx_tup h0 (by rw [ints'_length]; exact h), ints'_get]
  congr 2
  rw [List.getD_eq_getElem?_getD, List.getElem?_eq_getElem (by omega)]
  rfl
theorem minl_row {xs : List Int} (h : xs ≠ []) : ∃ m, m ∈ xs ∧ biT .minl [.tup (ints' xs)] = .ok (.int m) := by
  cases xs with
  | nil => exact absurd rfl h
  | cons x xs =>
    obtain ⟨m, h1, h2, h3⟩ := minT_ints xs x
    refine ⟨m, h2, ?_⟩
    show (if extOk (ints' (x :: xs)) = true then R.ok (minT (.int x) (ints' xs)) else .no) = _
    rw [if_pos ext_ints, h1]
theorem slc_row {r : List Int} {b : Int} (h1 : 0 ≤ b) (h2 : b ≤ r.length) : slcT (rowT r) (some 0) (some b) = .ok (.tup (ints' (r.take b.toNat))) := by
  show R.ok (Tr.tup (cut (ints' r) (some 0) (some b))) = _
  unfold cut sIx
  simp only [ints'_length]
  rw [if_neg (by omega), if_neg (by omega), Nat.min_eq_left (by omega), Nat.min_eq_left (by omega)]
  unfold ints'
  rw [List.map_take]
  rfl
/-- a case: distinct rows of m answers, at least one -/
structure IsCase (m : Nat) (rs : List (List Int)) : Prop where
  nd : rs.Nodup
  row : ∀ r ∈ rs, IsRow m r
  ne : rs ≠ []
  len : rs.length ≤ 1024
section
variable {fs : List Fn} {gl : List Tr} {fuel k f fn fa fc : Nat}
theorem case_ok (hf : fs[f]? = some (F_case fn fa fc)) (hn : fs[fn]? = some F_numbers) (ha : fs[fa]? = some F_answers) (hc : fs[fc]? = some F_cell) (ns : List Int) (at_ most : Int) (h0 : 0 ≤ at_) (h1 : 1 ≤ most) (h2 : most ≤ 10) :
    ∃ (m : Int) (rs : List (List Int)), 1 ≤ m ∧ m ≤ most ∧ IsCase m.toNat rs ∧ runF fs gl fuel (k + 2) f [.scr ns, .int at_, .int most] = .ok (.tup [.int m, .lst (rs.map rowT)]) := by
  have key : ∃ t, runF fs gl fuel (k + 2) f [.scr ns, .int at_, .int most] = .ok t ∧ ∃ (m : Int) (rs : List (List Int)), 1 ≤ m ∧ m ≤ most ∧ IsCase m.toNat rs ∧ t = .tup [.int m, .lst (rs.map rowT)] := by
    refine run_of _ hf rfl ?_
    show wp _ (execs _ _ [some (.scr ns), some (.int at_), some (.int most), none, none, none, none, none, none, none, none, none, none, none])
    simp only [F_case]
    have q1 : runF fs gl fuel (k + 1) fc [.scr ns, .int at_] = .ok (.int (cellN ns at_.toNat)) := cell_ok hc ns at_ h0
    obtain ⟨D, hD, q2⟩ : ∃ xs, Drawn (80 : Int).toNat 5040 xs ∧ runF fs gl fuel (k + 1) fn [.int (cellN ns at_.toNat), .int 80, .int 5040] = .ok (.lst (ints' xs)) := numbers_ok hn _ 80 5040 (by omega) (by omega) (by omega) (by omega)
    obtain ⟨d, hd, hT⟩ := hD.fn (by omega)
    generalize Tr.lst (ints' D) = T at q2 hT
    have hT : ∀ i : Int, 0 ≤ i → i < 80 → idxT T (.int i) = .ok (.int (d i)) := hT
    obtain ⟨m, hm⟩ : ∃ m, m = 1 + d 0 % most := ⟨_, rfl⟩
    have hm0 : 1 ≤ m ∧ m ≤ most := by
      have e1 := Int.emod_nonneg (d 0) (show most ≠ 0 by omega)
      have e2 := Int.emod_lt_of_pos (d 0) (show 0 < most by omega)
      omega
    obtain ⟨ev, hev, q3⟩ : ∃ rs, AllRows m.toNat rs ∧ runF fs gl fuel (k + 1) fa [.int m] = .ok (.lst (rs.map rowT)) := answers_ok ha m hm0.1 (by omega)
    walk_at "sxs"
    simp only [← hm]
    clear hm
    walk_at "sxs"
    have hevl : 0 < ev.length ∧ ev.length ≤ 1024 := by
      rw [hev.len]
      refine ⟨Nat.two_pow_pos _, ?_⟩
      calc 2 ^ m.toNat ≤ 2 ^ 10 := Nat.pow_le_pow_right (by omega) (by omega)
        _ = 1024 := rfl
    have hmapl : (ev.map rowT).length = ev.length := List.length_map _
    refine wp_for (xs := rngL 0 ev.length) (by walk_at "sxs") (fun i ρ => ∃ (fx : List (List Int)) (u8 u9 u10 u11 u12 u13 : Option Tr), fx.Sublist (ev.take i) ∧ ρ = [some (.scr ns), some (.int at_), some (.int most), some T, some (.int m), some (.lst (ev.map rowT)), some (.int (d 1 % 5)), some (.lst (fx.map rowT)), u8, u9, u10, u11, u12, u13]) ⟨[], _, _, _, _, _, _, List.nil_sublist _, rfl⟩ (fun i hi ρ hI => ?_) fun ρ hI => ?_
    · obtain ⟨fx, u8, u9, u10, u11, u12, u13, hfx, rfl⟩ := hI
      rw [rngL_length] at hi
      simp only [rngL_get]
      have hie : i < ev.length := by omega
      obtain ⟨r, hr⟩ : ∃ r, r = ev[i] := ⟨_, rfl⟩
      have hrow : IsRow m.toNat r := by rw [hr]; exact hev.row _ (List.getElem_mem hie)
      have hrl := hrow.1
      have he : idxT (.lst (ev.map rowT)) (.int (0 + (i : Int))) = .ok (rowT r) := by
        rw [idx_lst (by omega) (by omega)]
        congr 1
        have e0 : (0 + (i : Int)).toNat = i := by omega
        refine get_of _ ?_
        rw [e0, List.getElem?_map, List.getElem?_eq_getElem hie, hr]
        rfl
      have hfl : (fx.map rowT).length < 16777216 := by
        rw [List.length_map]
        have := hfx.length_le
        rw [List.length_take] at this
        omega
      have hsub : (fx ++ [r]).Sublist (ev.take (i + 1)) := by
        rw [List.take_succ_eq_append_getElem hie, ← hr]
        exact hfx.append (List.Sublist.refl _)
      have hsub0 : fx.Sublist (ev.take (i + 1)) := hfx.trans (List.take_sublist_take_left (by omega))
      walk_at "sx"
      simp only [he]
      walk_at "sx"
      refine wp_cutL (fun ρ => ∃ (g : Bool) (u11 u12 u13 : Option Tr), ρ = [some (.scr ns), some (.int at_), some (.int most), some T, some (.int m), some (.lst (ev.map rowT)), some (.int (d 1 % 5)), some (.lst (fx.map rowT)), some (.int (0 + (i : Int))), some (rowT r), some (.bl g), u11, u12, u13]) ?_ fun ρ hM => ?_
      · have hmr : m = r.length := by omega
        refine wp_ite (fun h => ?_) fun h => ?_
        · walk_at "sxs"
          exact ⟨_, _, _, _, rfl⟩
        · clear h
          walk_at "sx"
          refine wp_ite (fun h => ?_) fun h => ?_
          · clear h
            walk_at "sxs"
            exact ⟨_, _, _, _, rfl⟩
          · clear h
            walk_at "sx"
            refine wp_ite (fun h => ?_) fun h => ?_
            · clear h
              have d66 := hd 66
              have h66 := hT 66 (by omega) (by omega)
              walk_at "sx"
              refine wp_for (xs := rngL 0 (d 66 % 5)) (by walk_at "sx"; simp only [h66]; try walk_at "sx") (fun _ ρ => ∃ (g : Bool) (u11 u12 u13 : Option Tr), ρ = [some (.scr ns), some (.int at_), some (.int most), some T, some (.int m), some (.lst (ev.map rowT)), some (.int (d 1 % 5)), some (.lst (fx.map rowT)), some (.int (0 + (i : Int))), some (rowT r), some (.bl g), u11, u12, u13]) ⟨_, _, _, _, rfl⟩ (fun j hj ρ hI => ?_) fun ρ hI => ?_
              · obtain ⟨g, v11, v12, v13, rfl⟩ := hI
                rw [rngL_length] at hj
                simp only [rngL_get]
                have hx := hT (67 + (0 + (j : Int))) (by omega) (by omega)
                generalize d (67 + (0 + (j : Int))) = z at hx
                have a1 := Int.emod_nonneg z (show m ≠ 0 by omega)
                have a2 := Int.emod_lt_of_pos z (show 0 < m by omega)
                have b1 := Int.emod_nonneg (z / 6) (show m ≠ 0 by omega)
                have b2 := Int.emod_lt_of_pos (z / 6) (show 0 < m by omega)
                have c1 := idx_row (r := r) (i := z % m) a1 (by omega)
                have c2 := idx_row (r := r) (i := z / 6 % m) b1 (by omega)
                walk_at "sx"
                simp only [hx, R.ok_bind]
                walk_at "sx"
                simp only [hx, R.ok_bind]
                walk_at "sx"
                simp only [hx, c1, c2, R.ok_bind]
                walk_at "sx"
                refine wp_ite (fun h => ?_) fun h => ?_
                · walk_at "sx"
                  exact ⟨_, _, _, _, rfl⟩
                · walk_at "sx"
                  exact ⟨_, _, _, _, rfl⟩
              · obtain ⟨g, v11, v12, v13, rfl⟩ := hI
                walk_at "sx"
                exact ⟨_, _, _, _, rfl⟩
            · clear h
              walk_at "sx"
              refine wp_ite (fun h => ?_) fun h => ?_
              · clear h
                obtain ⟨q, hq⟩ : ∃ q, q = (if m - 1 > 1 then m - 1 else 1) := ⟨_, rfl⟩
                have hq0 : 1 ≤ q ∧ q ≤ r.length := by
                  split at hq <;> omega
                have s1 := slc_row (r := r) (b := q) (by omega) hq0.2
                obtain ⟨lo, _, s2⟩ := minl_row (xs := r.take q.toNat) (fun e => by
                  have := congrArg List.length e
                  rw [List.length_take, List.length_nil] at this
                  omega)
                have s3 := idx_row (r := r) (i := m - 1) (by omega) (by omega)
                walk_at "sx"
                simp only [← hq, s3, s1, s2, R.ok_bind]
                walk_at "sx"
                exact ⟨_, _, _, _, rfl⟩
              · clear h
                have s1 : biT .sum [rowT r] = .ok (.int r.sum) := sum_tup_ints
                have h2 := hT 2 (by omega) (by omega)
                have h3 := hT 3 (by omega) (by omega)
                have h4 := hT 4 (by omega) (by omega)
                have h5 : binT .mod (.int (d 4)) (.int ev.length) = .ok (.int (d 4 % ev.length)) := bin_mod (by omega)
                walk_at "sx"
                simp only [s1, h2, h3, h4, hmapl, R.ok_bind]
                walk_at "sx"
                exact ⟨_, _, _, _, rfl⟩
      · obtain ⟨g, u11, u12, u13, rfl⟩ := hM
        walk_at "sx"
        refine wp_ite (fun h => ?_) fun h => ?_
        · walk_at "sx"
          exact ⟨fx ++ [r], _, _, _, _, _, _, hsub, by rw [List.map_append]; rfl⟩
        · walk_at "sx"
          exact ⟨fx, _, _, _, _, _, _, hsub0, rfl⟩
    · obtain ⟨fx, u8, u9, u10, u11, u12, u13, hfx, rfl⟩ := hI
      rw [rngL_length] at hfx
      have hfx : fx.Sublist ev := hfx.trans (List.take_sublist _ _)
      have hfl : (fx.map rowT).length < 16777216 := by
        rw [List.length_map]
        have := hfx.length_le
        omega
      walk_at "sx"
      refine wp_cutL (fun ρ => ∃ (rs : List (List Int)), IsCase m.toNat rs ∧ ρ = [some (.scr ns), some (.int at_), some (.int most), some T, some (.int m), some (.lst (ev.map rowT)), some (.int (d 1 % 5)), some (.lst (rs.map rowT)), u8, u9, u10, u11, u12, u13]) (wp_ite (fun h => ?_) fun h => ?_) fun ρ hM => ?_
      · have e1 := Int.emod_nonneg (d 72) (show (ev.length : Int) ≠ 0 by omega)
        have e2 := Int.emod_lt_of_pos (d 72) (show 0 < (ev.length : Int) by omega)
        have e3 : (d 72 % (ev.length : Int)).toNat < ev.length := by omega
        have he : idxT (.lst (ev.map rowT)) (.int (d 72 % (ev.length : Int))) = .ok (rowT ev[(d 72 % (ev.length : Int)).toNat]) := by
          rw [idx_lst (by omega) (by omega)]
          congr 1
          refine get_of _ ?_
          rw [List.getElem?_map, List.getElem?_eq_getElem e3]
          rfl
        have hnil : fx = [] := by
          have h := of_decide_eq_true h
          rw [List.length_map] at h
          exact List.length_eq_zero_iff.mp (by omega)
        subst hnil
        walk_at "sxs"
        refine ⟨[ev[(d 72 % (ev.length : Int)).toNat]], ⟨by simp, fun r hr => ?_, by simp, by simp⟩, rfl⟩
        rw [List.mem_singleton.mp hr]
        exact hev.row _ (List.getElem_mem e3)
      · have h := of_decide_eq_false h
        walk_at "sx"
        refine ⟨fx, ⟨hfx.nodup hev.nd, fun r hr => hev.row r (hfx.subset hr), fun e => ?_, Nat.le_trans hfx.length_le hevl.2⟩, rfl⟩
        rw [e] at h
        exact h rfl
      · obtain ⟨rs, hrs, rfl⟩ := hM
        walk_at "sx"
        exact ⟨m, rs, hm0.1, hm0.2, hrs, rfl⟩
  obtain ⟨t, h, m, rs, a1, a2, a3, rfl⟩ := key
  exact ⟨m, rs, a1, a2, a3, h⟩
end
end Jr.P

/-! Plain: calendars: next open days, sorted numbers, comprehensions with a test over whole numbers. -/
namespace Jr.P
open PySem Jr
local macro_rules | `(tactic| walk_at "sx") => `(tactic| simp (disch := omega) only [evE_int, evE_bl, evE_non, evE_str, evE_var, evE_gl, evE_im, evE_bin, evE_neg, evE_not, evE_cmp, evE_chain, evE_and, evE_or, evE_ite, evE_tup, evE_lst, evE_idx, evE_slc, evE_rev, evE_call, evE_bi, evE_isi, evEs_nil, evEs_cons, evI_of, evI_rng1, evI_rng2, evI_enum, evI_zip, exec_set, exec_setp, exec_par, exec_seti, exec_aug, exec_app, exec_ife, exec_ret, exec_retn, exec_brk, exec_cnt, exec_pass, exec_expr, evC_def, tstT, parT, R.ok_bind, R.ok_out, R.ok_nox, wp_nx, wp_rt, wp_bk, wp_ct, wp_nil, wp_cons, later_nx, later_rt, later_bk, later_ct, later_n, later_r, later_r', later_b', later_c', List.getElem?_cons_zero, List.getElem?_cons_succ, Option.getD_some, Option.getD_none, ofO_some, List.set_cons_zero, List.set_cons_succ, bin_add, bin_sub, mul_r, mul_l, bin_fdiv, bin_mod, pow_18, cmp_eq, cmp_ne, cmp_lt, cmp_le, cmp_gt, cmp_ge, tru_bl, tru_int, neg_int, int_int, int_bl, abs_int, len_lst, len_tup, len_scr, max_int, min_int, list_lst, list_tup, tuple_lst, sum_ints, idx_ints, idx_scr, idx_3, idx_2, rng_1, rng_2, itemsT, bindP_var, bindP_tup, bindPs_nil, bindPs_cons, divmod_int, lsz_le, lsz_0, lsz_1, lsz_2, lsz_3, lsz_4, lsz_5, lsz_6, lsz_7, lsz_8, if_lt_SZ, if_le_SZ, ints'_snoc, List.length_append, ints'_length, List.length_nil, List.length_cons, Nat.reduceAdd, Bool.false_eq_true, if_true, if_false, reduceIte, intO, ne_eq, not_true_eq_false, not_false_eq_true, decide_true, decide_false, Bool.not_true, Bool.not_false, isi_int_lst, isi_int_tup, isi_int_int, isi_int_bl, isi_int_str, isi_int_non, isi_bool_lst, isi_bool_tup, isi_bool_int, isi_bool_bl, isi_bool_str, isi_bool_non, isi_str_lst, isi_str_tup, isi_str_int, isi_str_bl, isi_str_str, isi_str_non, isi_list_lst, isi_list_tup, isi_list_int, isi_list_bl, isi_list_str, isi_list_non, isi_tuple_lst, isi_tuple_tup, isi_tuple_int, isi_tuple_bl, isi_tuple_str, isi_tuple_non, is_lst, isnot_lst, is_tup, isnot_tup, is_int, isnot_int, is_bl, isnot_bl, is_str, isnot_str, is_non, isnot_non, setAt_ints, aug_add, aug_sub, ints'_get, ite_ok, ite_bl])
local macro_rules | `(tactic| walk_at "sxs") => `(tactic| simp (disch := omega) only [*, evE_int, evE_bl, evE_non, evE_str, evE_var, evE_gl, evE_im, evE_bin, evE_neg, evE_not, evE_cmp, evE_chain, evE_and, evE_or, evE_ite, evE_tup, evE_lst, evE_idx, evE_slc, evE_rev, evE_call, evE_bi, evE_isi, evEs_nil, evEs_cons, evI_of, evI_rng1, evI_rng2, evI_enum, evI_zip, exec_set, exec_setp, exec_par, exec_seti, exec_aug, exec_app, exec_ife, exec_ret, exec_retn, exec_brk, exec_cnt, exec_pass, exec_expr, evC_def, tstT, parT, R.ok_bind, R.ok_out, R.ok_nox, wp_nx, wp_rt, wp_bk, wp_ct, wp_nil, wp_cons, later_nx, later_rt, later_bk, later_ct, later_n, later_r, later_r', later_b', later_c', List.getElem?_cons_zero, List.getElem?_cons_succ, Option.getD_some, Option.getD_none, ofO_some, List.set_cons_zero, List.set_cons_succ, bin_add, bin_sub, mul_r, mul_l, bin_fdiv, bin_mod, pow_18, cmp_eq, cmp_ne, cmp_lt, cmp_le, cmp_gt, cmp_ge, tru_bl, tru_int, neg_int, int_int, int_bl, abs_int, len_lst, len_tup, len_scr, max_int, min_int, list_lst, list_tup, tuple_lst, sum_ints, idx_ints, idx_scr, idx_3, idx_2, rng_1, rng_2, itemsT, bindP_var, bindP_tup, bindPs_nil, bindPs_cons, divmod_int, lsz_le, lsz_0, lsz_1, lsz_2, lsz_3, lsz_4, lsz_5, lsz_6, lsz_7, lsz_8, if_lt_SZ, if_le_SZ, ints'_snoc, List.length_append, ints'_length, List.length_nil, List.length_cons, Nat.reduceAdd, Bool.false_eq_true, if_true, if_false, reduceIte, intO, ne_eq, not_true_eq_false, not_false_eq_true, decide_true, decide_false, Bool.not_true, Bool.not_false, isi_int_lst, isi_int_tup, isi_int_int, isi_int_bl, isi_int_str, isi_int_non, isi_bool_lst, isi_bool_tup, isi_bool_int, isi_bool_bl, isi_bool_str, isi_bool_non, isi_str_lst, isi_str_tup, isi_str_int, isi_str_bl, isi_str_str, isi_str_non, isi_list_lst, isi_list_tup, isi_list_int, isi_list_bl, isi_list_str, isi_list_non, isi_tuple_lst, isi_tuple_tup, isi_tuple_int, isi_tuple_bl, isi_tuple_str, isi_tuple_non, is_lst, isnot_lst, is_tup, isnot_tup, is_int, isnot_int, is_bl, isnot_bl, is_str, isnot_str, is_non, isnot_non, setAt_ints, aug_add, aug_sub, ints'_get, ite_ok, ite_bl])
theorem evE_lrg1 {c : Ctx} {a : Ex} {ρ : Env} : evE c (.lrg1 a) ρ = ((evE c a ρ).bind fun x => (rngT1 x).bind lsz) := no_rfl rfl
theorem evE_lrg2 {c : Ctx} {a b : Ex} {ρ : Env} : evE c (.lrg2 a b) ρ = ((evE c a ρ).bind fun x => (evE c b ρ).bind fun y => (rngT2 x y).bind lsz) := no_rfl rfl
theorem inn_ints {x : Int} {xs : List Int} : cmpT .inn (.int x) (.lst (ints' xs)) = .ok (decide (x ∈ xs)) := by
  show (if (sh (.int x) && sh (.lst (ints' xs))) = true then R.ok ((ints' xs).any fun z => eqv z (.int x)) else .no) = _
  rw [sh_ints]
  show R.ok ((ints' xs).any fun z => eqv z (.int x)) = _
  congr 1
  unfold ints'
  rw [List.any_map, Bool.eq_iff_iff, List.any_eq_true, decide_eq_true_iff]
  constructor
  · rintro ⟨r, h1, h2⟩
    have h2 : (r == x) = true := h2
    rw [beq_iff_eq] at h2
    exact h2 ▸ h1
  · intro h1
    refine ⟨x, h1, ?_⟩
    show (x == x) = true
    rw [beq_self_eq_true]
theorem notin_ints {x : Int} {xs : List Int} : cmpT .notin (.int x) (.lst (ints' xs)) = .ok (decide (x ∉ xs)) := by
  show (cmpT .inn (.int x) (.lst (ints' xs))).bind (fun r => R.ok (!r)) = _
  rw [inn_ints]
  show R.ok (!decide (x ∈ xs)) = _
  rw [decide_not]
/-- sorted whole numbers -/
def isort (xs : List Int) : List Int := xs.mergeSort fun a b => decide (a ≤ b)
theorem isort_perm (xs : List Int) : (isort xs).Perm xs := List.mergeSort_perm _ _
theorem isort_pw (xs : List Int) : (isort xs).Pairwise fun a b => a ≤ b := by
  have h := List.pairwise_mergeSort (le := fun a b : Int => decide (a ≤ b)) (fun a b c h1 h2 => by simp only [decide_eq_true_iff] at h1 h2 ⊢; omega) (fun a b => by simp only [Bool.or_eq_true, decide_eq_true_iff]; omega) xs
  exact h.imp fun h => of_decide_eq_true h
theorem isort_length (xs : List Int) : (isort xs).length = xs.length := (isort_perm xs).length_eq
theorem sorted_ints {xs : List Int} : biT .sorted [.lst (ints' xs)] = .ok (.lst (ints' (isort xs))) := by
  have hs : srtOk (ints' xs) = true := by
    unfold srtOk
    simp only [Bool.and_eq_true, Bool.or_eq_true, List.all_eq_true]
    refine ⟨⟨fun t ht u hu => ?_, .inl (.inr fun t ht => ?_)⟩, fun t ht => ?_⟩
    · obtain ⟨a, _, rfl⟩ := List.mem_map.mp ht
      obtain ⟨b, _, rfl⟩ := List.mem_map.mp hu
      show PySem.W.alike (.int a) (.int b) = true
      first | rfl | (rw [PySem.W.alike]; done) | (rw [PySem.W.alike]; rfl)
    · obtain ⟨a, _, rfl⟩ := List.mem_map.mp ht
      rfl
    · obtain ⟨a, _, rfl⟩ := List.mem_map.mp ht
      rfl
  show (if srtOk (ints' xs) = true then R.ok (Tr.lst (srtT (ints' xs))) else .no) = _
  rw [if_pos hs]
  congr 2
  unfold srtT ints' isort
  rw [List.map_mergeSort (s := fun a b => !ltv b a)]
  intro a _ b _
  rw [ltv_int, Bool.eq_iff_iff, Bool.not_eq_true', decide_eq_true_iff, decide_eq_false_iff_not]
  omega
/-- a comprehension with a test over whole numbers -/
theorem comp_ifi {c : Ctx} {v : Nat} {it : It} {d e : Ex} {ρ : Env} {xs : List Int} (q : Int → Bool) (g : Int → Int) (hx : evI c it ρ = .ok (ints' xs)) (hz : xs.length ≤ 16777216)
    (hd : ∀ x ∈ xs, evC c d ((ρ.set v none).set v (some (.int x))) = .ok (q x)) (h : ∀ x ∈ xs, evE c e ((ρ.set v none).set v (some (.int x))) = .ok (.int (g x))) : evE c (.comp (.var v) it d e) ρ = .ok (.lst (ints' ((xs.filter q).map g))) := by
  have hun : ∀ t ∈ ints' xs, ∃ x ∈ xs, t = .int x := fun t ht => by
    obtain ⟨x, hx, rfl⟩ := List.mem_map.mp ht
    exact ⟨x, hx, rfl⟩
  rw [comp_if (xs := ints' xs) (fun t => match t with | .int x => .int (g x) | t => t) (fun t => match t with | .int x => q x | _ => false) hx (by rw [ints'_length]; exact hz) (fun t ht => ?_) fun t ht _ => ?_]
  · congr 2
    unfold ints'
    rw [List.filter_map, List.map_map, List.map_map]
    rfl
  · obtain ⟨x, hx, rfl⟩ := hun t ht
    exact hd x hx
  · obtain ⟨x, hx, rfl⟩ := hun t ht
    exact h x hx
/-- the whole numbers from a to below b -/
def irange (a b : Int) : List Int := (List.range (b - a).toNat).map fun i : Nat => a + i
theorem rngL_irange {a b : Int} : rngL a b = ints' (irange a b) := by
  unfold rngL ints' irange
  rw [List.map_map]
  rfl
theorem irange_length {a b : Int} : (irange a b).length = (b - a).toNat := by
  unfold irange
  rw [List.length_map, List.length_range]
theorem mem_irange {a b x : Int} : x ∈ irange a b ↔ a ≤ x ∧ x < b := by
  unfold irange
  rw [List.mem_map]
  constructor
  · rintro ⟨i, h, rfl⟩
    rw [List.mem_range] at h
    omega
  · rintro ⟨h1, h2⟩
    exact ⟨(x - a).toNat, List.mem_range.mpr (by omega), by omega⟩
theorem irange_nil {a b : Int} (h : b ≤ a) : irange a b = [] := by
  unfold irange
  rw [show (b - a).toNat = 0 by omega]
  rfl
theorem irange_split {a x b : Int} (h1 : a ≤ x) (h2 : x ≤ b) : irange a b = irange a x ++ irange x b := by
  unfold irange
  rw [show (b - a).toNat = (x - a).toNat + (b - x).toNat by omega, List.range_add, List.map_append, List.map_map]
  congr 1
  refine List.map_congr_left fun i _ => ?_
  show a + ((x - a).toNat + i : Nat) = x + i
  omega
theorem irange_one {a : Int} : irange a (a + 1) = [a] := by
  unfold irange
  rw [show (a + 1 - a).toNat = 1 by omega]
  show [a + ((0 : Nat) : Int)] = [a]
  rw [show a + ((0 : Nat) : Int) = a by omega]
theorem irange_cons {a b : Int} (h : a < b) : irange a b = a :: irange (a + 1) b := by
  rw [irange_split (x := a + 1) (by omega) (by omega), irange_one]
  rfl
/-! ### the next open day, the last one -/
structure IsNext (C : List Int) (d x : Int) : Prop where
  le : d ≤ x
  op : x ∉ C
  cl : ∀ m, d ≤ m → m < x → m ∈ C
theorem IsNext.uniq {C : List Int} {d x y : Int} (h : IsNext C d x) (h' : IsNext C d y) : x = y := by
  have h1 : ¬ x < y := fun z => h.op (h'.cl x h.le z)
  have h2 : ¬ y < x := fun z => h'.op (h.cl y h'.le z)
  omega
/-- the closed days from a day on -/
def lft (C : List Int) (d : Int) : Nat := (C.filter fun m => decide (d ≤ m)).length
theorem lft_le {C : List Int} {d : Int} : lft C d ≤ C.length := List.length_filter_le _ _
theorem lft_mono {C : List Int} {d e : Int} (h : d ≤ e) : lft C e ≤ lft C d := by
  unfold lft
  rw [← List.countP_eq_length_filter, ← List.countP_eq_length_filter]
  refine List.countP_mono_left fun m _ z => ?_
  rw [decide_eq_true_iff] at z ⊢
  omega
theorem lft_lt {C : List Int} {d : Int} (h : d ∈ C) : lft C (d + 1) < lft C d := by
  have e : (C.filter fun m => decide (d + 1 ≤ m)) = (C.filter fun m => decide (d ≤ m)).filter fun m => decide (d + 1 ≤ m) := by
    rw [List.filter_filter]
    refine List.filter_congr fun m _ => ?_
    rw [Bool.eq_iff_iff, Bool.and_eq_true, decide_eq_true_iff, decide_eq_true_iff]
    omega
  unfold lft
  rw [e, List.length_filter_lt_length_iff_exists]
  refine ⟨d, List.mem_filter.mpr ⟨h, by rw [decide_eq_true_iff]; omega⟩, ?_⟩
  rw [decide_eq_true_iff]
  omega
theorem exists_next (C : List Int) : ∀ (n : Nat) (d : Int), lft C d ≤ n → ∃ x, IsNext C d x ∧ (x - d).toNat + lft C x ≤ lft C d
  | n, d, h => by
    by_cases hd : d ∈ C
    · have h1 := lft_lt hd
      cases n with
      | zero => omega
      | succ n =>
        obtain ⟨x, hx, h2⟩ := exists_next C n (d + 1) (by omega)
        have hl := hx.le
        refine ⟨x, ⟨by omega, hx.op, fun m h3 h4 => ?_⟩, by omega⟩
        by_cases e : m = d
        · rw [e]; exact hd
        · exact hx.cl m (by omega) h4
    · exact ⟨d, ⟨Int.le_refl _, hd, fun m h3 h4 => by omega⟩, by omega⟩
noncomputable def nx (C : List Int) (d : Int) : Int := Classical.choose (exists_next C _ d (Nat.le_refl _))
theorem nx_next (C : List Int) (d : Int) : IsNext C d (nx C d) := (Classical.choose_spec (exists_next C _ d (Nat.le_refl _))).1
theorem nx_lft (C : List Int) (d : Int) : (nx C d - d).toNat + lft C (nx C d) ≤ lft C d := (Classical.choose_spec (exists_next C _ d (Nat.le_refl _))).2
theorem nx_le (C : List Int) (d : Int) : d ≤ nx C d := (nx_next C d).le
theorem nx_near (C : List Int) (d : Int) : nx C d ≤ d + C.length := by
  have h1 := nx_lft C d
  have h2 := lft_le (C := C) (d := d)
  omega
theorem nx_self {C : List Int} {d : Int} (h : d ∉ C) : nx C d = d := (nx_next C d).uniq ⟨Int.le_refl _, h, fun m h1 h2 => by omega⟩
theorem nx_mono {C : List Int} {d e : Int} (h : d ≤ e) : nx C d ≤ nx C e := by
  have h1 := nx_next C d
  have h2 := nx_next C e
  have h3 : ¬ nx C e < nx C d := fun z => h2.op (h1.cl _ (by have := h2.le; omega) z)
  omega
structure IsLast (C : List Int) (d x : Int) : Prop where
  le : x ≤ d
  op : x ∉ C
  cl : ∀ m, x < m → m ≤ d → m ∈ C
theorem IsLast.uniq {C : List Int} {d x y : Int} (h : IsLast C d x) (h' : IsLast C d y) : x = y := by
  have h1 : ¬ x < y := fun z => h'.op (h.cl y z h'.le)
  have h2 : ¬ y < x := fun z => h.op (h'.cl x z h.le)
  omega
noncomputable def la (C : List Int) (d : Int) : Int := -nx (C.map (- ·)) (-d)
theorem mem_neg {C : List Int} {x : Int} : -x ∈ C.map (- ·) ↔ x ∈ C := by
  rw [List.mem_map]
  constructor
  · rintro ⟨y, h, e⟩
    rw [show x = y by omega]
    exact h
  · exact fun h => ⟨x, h, rfl⟩
theorem la_last (C : List Int) (d : Int) : IsLast C d (la C d) := by
  have h := nx_next (C.map (- ·)) (-d)
  unfold la
  generalize nx (C.map (- ·)) (-d) = y at h
  refine ⟨by have := h.le; omega, fun z => h.op ?_, fun m h1 h2 => mem_neg.mp (h.cl (-m) (by omega) (by omega))⟩
  rw [← mem_neg, Int.neg_neg] at z
  exact z
theorem la_near (C : List Int) (d : Int) : d - C.length ≤ la C d := by
  have h := nx_near (C.map (- ·)) (-d)
  rw [List.length_map] at h
  unfold la
  omega
theorem la_ge {C : List Int} (hC : ∀ x ∈ C, 0 ≤ x) {d : Int} (h : -1 ≤ d) : -1 ≤ la C d := by
  have h1 := la_last C d
  refine Classical.byContradiction fun z => ?_
  have h2 := hC _ (h1.cl (-1) (by omega) h)
  omega
def F_next : Fn where
  name := "next_open"
  np := 2
  N := ["closed", "day"]
  body := .cons (.whl [] (.cmp .inn (.var 1) (.var 0)) (.cons (.aug 1 .add (.int 1)) .nil)) (
    .cons (.ret (.var 1)) .nil)
  fr := false
def F_last : Fn where
  name := "last_open"
  np := 2
  N := ["closed", "day"]
  body := .cons (.whl [] (.cmp .inn (.var 1) (.var 0)) (.cons (.aug 1 .sub (.int 1)) .nil)) (
    .cons (.ret (.ite (.cmp .ge (.var 1) (.int 0)) (.var 1) (.non))) .nil)
  fr := false
def F_behind (fn : Nat) : Fn where
  name := "behind"
  np := 3
  N := ["closed", "day", "k", "_"]
  body := .cons (.ife (.cmp .eq (.var 2) (.int 0)) (.cons (.ret (.call fn (.cons (.var 0) (.cons (.var 1) (.nil))))) .nil) (.nil)) (
    .cons (.for [] (.var 3) (.rng1 (.var 2)) (.cons (.set 1 (.call fn (.cons (.var 0) (.cons (.bin .add (.var 1) (.int 1)) (.nil))))) .nil)) (
    .cons (.ret (.var 1)) .nil))
  fr := false
def F_days : Fn where
  name := "_law_days"
  np := 4
  N := ["draws", "at", "count", "last", "found", "k", "day"]
  body := .cons (.set 4 (.lst (.nil))) (
    .cons (.for [4] (.var 5) (.rng1 (.var 2)) (.cons (.set 6 (.bin .mod (.idx (.var 0) (.bin .mod (.bin .add (.var 1) (.var 5)) (.bi .len (.cons (.var 0) (.nil))))) (.bin .add (.var 3) (.int 1)))) (
      .cons (.ife (.cmp .notin (.var 6) (.var 4)) (.cons (.app 4 (.var 6)) .nil) (.nil)) .nil))) (
    .cons (.ret (.bi .sorted (.cons (.var 4) (.nil)))) .nil))
  fr := true
section
variable {fs : List Fn} {gl : List Tr} {fuel k f fn : Nat}
theorem next_ok (hf : fs[f]? = some F_next) (C : List Int) (d : Int) (hl : C.length < fuel) : runF fs gl fuel (k + 1) f [.lst (ints' C), .int d] = .ok (.int (nx C d)) := by
  refine run_eq hf rfl ?_
  show wp _ (execs _ _ [some (.lst (ints' C)), some (.int d)])
  simp only [F_next]
  walk_at "sx"
  refine wp_whl (n := (nx C d - d).toNat) (fun n ρ => ∃ y, IsNext C y (nx C d) ∧ n = (nx C d - y).toNat ∧ ρ = [some (.lst (ints' C)), some (.int y)]) ⟨d, nx_next C d, rfl, rfl⟩ (by have := nx_near C d; have := nx_le C d; show _ < fuel; omega) fun n ρ hI => ?_
  obtain ⟨y, hy, hn, rfl⟩ := hI
  refine ⟨decide (y ∈ C), by walk_at "sx"; simp only [inn_ints, R.ok_bind, tru_bl], fun h => ?_, fun h => ?_⟩
  · have h := of_decide_eq_true h
    have hne : y ≠ nx C d := fun e => hy.op (e ▸ h)
    have hle := hy.le
    walk_at "sx"
    exact ⟨_, by omega, y + 1, ⟨by omega, hy.op, fun m h1 h2 => hy.cl m (by omega) h2⟩, rfl, rfl⟩
  · have h := of_decide_eq_false h
    have e : y = nx C d := by
      have hle := hy.le
      refine Classical.byContradiction fun z => h (hy.cl y (by omega) (by omega))
    walk_at "sx"
    rw [e]
def optT : Option Int → Tr
  | none => .non
  | some x => .int x
def ge0 (x : Int) : Option Int := if 0 ≤ x then some x else none
theorem last_ok (hf : fs[f]? = some F_last) (C : List Int) (d : Int) (hl : C.length < fuel) : runF fs gl fuel (k + 1) f [.lst (ints' C), .int d] = .ok (optT (ge0 (la C d))) := by
  refine run_eq hf rfl ?_
  show wp _ (execs _ _ [some (.lst (ints' C)), some (.int d)])
  simp only [F_last]
  walk_at "sx"
  have hdl := (la_last C d).le
  refine wp_whl (n := (d - la C d).toNat) (fun n ρ => ∃ y, IsLast C y (la C d) ∧ n = (y - la C d).toNat ∧ ρ = [some (.lst (ints' C)), some (.int y)]) ⟨d, la_last C d, rfl, rfl⟩ (by have := la_near C d; show _ < fuel; omega) fun n ρ hI => ?_
  obtain ⟨y, hy, hn, rfl⟩ := hI
  refine ⟨decide (y ∈ C), by walk_at "sx"; simp only [inn_ints, R.ok_bind, tru_bl], fun h => ?_, fun h => ?_⟩
  · have h := of_decide_eq_true h
    have hne : y ≠ la C d := fun e => hy.op (e ▸ h)
    have hle := hy.le
    walk_at "sx"
    exact ⟨_, by omega, y - 1, ⟨by omega, hy.op, fun m h1 h2 => hy.cl m h1 (by omega)⟩, rfl, rfl⟩
  · have h := of_decide_eq_false h
    have e : y = la C d := by
      have hle := hy.le
      refine Classical.byContradiction fun z => h (hy.cl y (by omega) (by omega))
    rw [← e]
    walk_at "sx"
    unfold ge0
    by_cases h0 : 0 ≤ y
    · simp only [h0, decide_true, if_true]
      rfl
    · simp only [h0, decide_false, if_false]
      rfl
/-- the day behind a day by so many open ones, each behind the one before -/
noncomputable def it (C : List Int) (d : Int) : Nat → Int
  | 0 => d
  | n + 1 => nx C (it C d n + 1)
noncomputable def bh (C : List Int) (d : Int) (k : Int) : Int := if k = 0 then nx C d else it C d k.toNat
theorem behind_ok (hf : fs[f]? = some (F_behind fn)) (hn : fs[fn]? = some F_next) (C : List Int) (d m : Int) (hl : C.length < fuel) (h0 : 0 ≤ m) (h1 : m < 4611686018427387904) : runF fs gl fuel (k + 2) f [.lst (ints' C), .int d, .int m] = .ok (.int (bh C d m)) := by
  refine run_eq hf rfl ?_
  show wp _ (execs _ _ [some (.lst (ints' C)), some (.int d), some (.int m), none])
  simp only [F_behind]
  have q : ∀ x, runF fs gl fuel (k + 1) fn [.lst (ints' C), .int x] = .ok (.int (nx C x)) := fun x => next_ok hn C x hl
  walk_at "sx"
  refine wp_ite (fun h => ?_) fun h => ?_
  · have h := of_decide_eq_true h
    walk_at "sx"
    simp only [q]
    walk_at "sx"
    unfold bh
    rw [if_pos h]
  · have h := of_decide_eq_false h
    walk_at "sx"
    refine wp_for (xs := rngL 0 m) (by walk_at "sx") (fun i ρ => ∃ u, ρ = [some (.lst (ints' C)), some (.int (it C d i)), some (.int m), u]) ⟨_, rfl⟩ (fun i hi ρ hI => ?_) fun ρ hI => ?_
    · obtain ⟨u, rfl⟩ := hI
      simp only [rngL_get]
      walk_at "sx"
      simp only [q]
      walk_at "sx"
      exact ⟨_, rfl⟩
    · obtain ⟨u, rfl⟩ := hI
      walk_at "sx"
      rw [rngL_length]
      unfold bh
      rw [if_neg h, Int.sub_zero]
theorem days_ok (hf : fs[f]? = some F_days) {n : Nat} {l : Int} {D : List Int} (hD : Drawn n l D) (hn : 0 < n) (a c t : Int) (h0 : 0 ≤ c) (h1 : c < 1000000) (h2 : 0 ≤ t) :
    ∃ xs : List Int, (xs.length : Int) ≤ c ∧ (∀ x ∈ xs, 0 ≤ x ∧ x ≤ t) ∧ xs.Pairwise (fun a b => a ≤ b) ∧ xs.Nodup ∧ runF fs gl fuel (k + 1) f [.lst (ints' D), .int a, .int c, .int t] = .ok (.lst (ints' xs)) := by
  have key : ∃ v, runF fs gl fuel (k + 1) f [.lst (ints' D), .int a, .int c, .int t] = .ok v ∧ ∃ xs : List Int, (xs.length : Int) ≤ c ∧ (∀ x ∈ xs, 0 ≤ x ∧ x ≤ t) ∧ xs.Pairwise (fun a b => a ≤ b) ∧ xs.Nodup ∧ v = .lst (ints' xs) := by
    refine run_of _ hf rfl ?_
    show wp _ (execs _ _ [some (.lst (ints' D)), some (.int a), some (.int c), some (.int t), none, none, none])
    simp only [F_days]
    walk_at "sx"
    refine wp_for (xs := rngL 0 c) (by walk_at "sx") (fun i ρ => ∃ u v, ∃ xs : List Int, xs.length ≤ i ∧ (∀ x ∈ xs, 0 ≤ x ∧ x ≤ t) ∧ xs.Nodup ∧ ρ = [some (.lst (ints' D)), some (.int a), some (.int c), some (.int t), some (.lst (ints' xs)), u, v]) ⟨none, none, [], Nat.le_refl _, (fun _ z => nomatch z), List.Pairwise.nil, rfl⟩ (fun i hi ρ hI => ?_) fun ρ hI => ?_
    · obtain ⟨u, v, xs, hx1, hx2, hx3, rfl⟩ := hI
      rw [rngL_length] at hi
      have hDl := hD.1
      simp only [rngL_get]
      have e1 := Int.emod_nonneg (a + (0 + (i : Int))) (show (D.length : Int) ≠ 0 by omega)
      have e2 := Int.emod_lt_of_pos (a + (0 + (i : Int))) (show 0 < (D.length : Int) by omega)
      walk_at "sx"
      generalize D[((a + (0 + (i : Int))) % (D.length : Int)).toNat]'(by omega) = z
      have e3 := Int.emod_nonneg z (show t + 1 ≠ 0 by omega)
      have e4 := Int.emod_lt_of_pos z (show 0 < t + 1 by omega)
      generalize z % (t + 1) = w at e3 e4
      simp only [notin_ints, R.ok_bind, tru_bl, R.ok_out]
      refine wp_ite (fun h => ?_) fun h => ?_
      · have h := of_decide_eq_true h
        walk_at "sx"
        refine ⟨_, _, xs ++ [w], by rw [List.length_append]; exact Nat.succ_le_succ hx1, fun x hx => ?_, ?_, rfl⟩
        · rcases List.mem_append.mp hx with hx | hx
          · exact hx2 x hx
          · rw [List.mem_singleton.mp hx]; omega
        · rw [List.nodup_append]
          refine ⟨hx3, by simp, fun x hx y hy e => ?_⟩
          rw [List.mem_singleton] at hy
          exact h (hy ▸ e ▸ hx)
      · walk_at "sx"
        exact ⟨_, _, xs, by omega, hx2, hx3, rfl⟩
    · obtain ⟨u, v, xs, hx1, hx2, hx3, rfl⟩ := hI
      rw [rngL_length] at hx1
      walk_at "sx"
      simp only [sorted_ints, R.ok_bind, R.ok_out]
      walk_at "sx"
      exact ⟨isort xs, by rw [isort_length]; omega, fun x hx => hx2 x ((isort_perm xs).mem_iff.mp hx), isort_pw xs, (isort_perm xs).nodup_iff.mpr hx3, rfl⟩
  obtain ⟨v, h, xs, e1, e2, e3, e4, rfl⟩ := key
  exact ⟨xs, e1, e2, e3, e4, h⟩
end
end Jr.P

/-! Plain: texts compared, whole numbers within bounds, reprs, comprehensions of any pattern. -/
namespace Jr.P
open PySem Jr
local macro_rules | `(tactic| walk_at "sx") => `(tactic| simp (disch := omega) only [evE_int, evE_bl, evE_non, evE_str, evE_var, evE_gl, evE_im, evE_bin, evE_neg, evE_not, evE_cmp, evE_chain, evE_and, evE_or, evE_ite, evE_tup, evE_lst, evE_idx, evE_slc, evE_rev, evE_call, evE_bi, evE_isi, evEs_nil, evEs_cons, evI_of, evI_rng1, evI_rng2, evI_enum, evI_zip, exec_set, exec_setp, exec_par, exec_seti, exec_aug, exec_app, exec_ife, exec_ret, exec_retn, exec_brk, exec_cnt, exec_pass, exec_expr, evC_def, tstT, parT, R.ok_bind, R.ok_out, R.ok_nox, wp_nx, wp_rt, wp_bk, wp_ct, wp_nil, wp_cons, later_nx, later_rt, later_bk, later_ct, later_n, later_r, later_r', later_b', later_c', List.getElem?_cons_zero, List.getElem?_cons_succ, Option.getD_some, Option.getD_none, ofO_some, List.set_cons_zero, List.set_cons_succ, bin_add, bin_sub, mul_r, mul_l, bin_fdiv, bin_mod, pow_18, cmp_eq, cmp_ne, cmp_lt, cmp_le, cmp_gt, cmp_ge, tru_bl, tru_int, neg_int, int_int, int_bl, abs_int, len_lst, len_tup, len_scr, max_int, min_int, list_lst, list_tup, tuple_lst, sum_ints, idx_ints, idx_scr, idx_3, idx_2, rng_1, rng_2, itemsT, bindP_var, bindP_tup, bindPs_nil, bindPs_cons, divmod_int, lsz_le, lsz_0, lsz_1, lsz_2, lsz_3, lsz_4, lsz_5, lsz_6, lsz_7, lsz_8, if_lt_SZ, if_le_SZ, ints'_snoc, List.length_append, ints'_length, List.length_nil, List.length_cons, Nat.reduceAdd, Bool.false_eq_true, if_true, if_false, reduceIte, intO, ne_eq, not_true_eq_false, not_false_eq_true, decide_true, decide_false, Bool.not_true, Bool.not_false, isi_int_lst, isi_int_tup, isi_int_int, isi_int_bl, isi_int_str, isi_int_non, isi_bool_lst, isi_bool_tup, isi_bool_int, isi_bool_bl, isi_bool_str, isi_bool_non, isi_str_lst, isi_str_tup, isi_str_int, isi_str_bl, isi_str_str, isi_str_non, isi_list_lst, isi_list_tup, isi_list_int, isi_list_bl, isi_list_str, isi_list_non, isi_tuple_lst, isi_tuple_tup, isi_tuple_int, isi_tuple_bl, isi_tuple_str, isi_tuple_non, is_lst, isnot_lst, is_tup, isnot_tup, is_int, isnot_int, is_bl, isnot_bl, is_str, isnot_str, is_non, isnot_non, setAt_ints, aug_add, aug_sub, ints'_get, ite_ok, ite_bl])
local macro_rules | `(tactic| walk_at "sxs") => `(tactic| simp (disch := omega) only [*, evE_int, evE_bl, evE_non, evE_str, evE_var, evE_gl, evE_im, evE_bin, evE_neg, evE_not, evE_cmp, evE_chain, evE_and, evE_or, evE_ite, evE_tup, evE_lst, evE_idx, evE_slc, evE_rev, evE_call, evE_bi, evE_isi, evEs_nil, evEs_cons, evI_of, evI_rng1, evI_rng2, evI_enum, evI_zip, exec_set, exec_setp, exec_par, exec_seti, exec_aug, exec_app, exec_ife, exec_ret, exec_retn, exec_brk, exec_cnt, exec_pass, exec_expr, evC_def, tstT, parT, R.ok_bind, R.ok_out, R.ok_nox, wp_nx, wp_rt, wp_bk, wp_ct, wp_nil, wp_cons, later_nx, later_rt, later_bk, later_ct, later_n, later_r, later_r', later_b', later_c', List.getElem?_cons_zero, List.getElem?_cons_succ, Option.getD_some, Option.getD_none, ofO_some, List.set_cons_zero, List.set_cons_succ, bin_add, bin_sub, mul_r, mul_l, bin_fdiv, bin_mod, pow_18, cmp_eq, cmp_ne, cmp_lt, cmp_le, cmp_gt, cmp_ge, tru_bl, tru_int, neg_int, int_int, int_bl, abs_int, len_lst, len_tup, len_scr, max_int, min_int, list_lst, list_tup, tuple_lst, sum_ints, idx_ints, idx_scr, idx_3, idx_2, rng_1, rng_2, itemsT, bindP_var, bindP_tup, bindPs_nil, bindPs_cons, divmod_int, lsz_le, lsz_0, lsz_1, lsz_2, lsz_3, lsz_4, lsz_5, lsz_6, lsz_7, lsz_8, if_lt_SZ, if_le_SZ, ints'_snoc, List.length_append, ints'_length, List.length_nil, List.length_cons, Nat.reduceAdd, Bool.false_eq_true, if_true, if_false, reduceIte, intO, ne_eq, not_true_eq_false, not_false_eq_true, decide_true, decide_false, Bool.not_true, Bool.not_false, isi_int_lst, isi_int_tup, isi_int_int, isi_int_bl, isi_int_str, isi_int_non, isi_bool_lst, isi_bool_tup, isi_bool_int, isi_bool_bl, isi_bool_str, isi_bool_non, isi_str_lst, isi_str_tup, isi_str_int, isi_str_bl, isi_str_str, isi_str_non, isi_list_lst, isi_list_tup, isi_list_int, isi_list_bl, isi_list_str, isi_list_non, isi_tuple_lst, isi_tuple_tup, isi_tuple_int, isi_tuple_bl, isi_tuple_str, isi_tuple_non, is_lst, isnot_lst, is_tup, isnot_tup, is_int, isnot_int, is_bl, isnot_bl, is_str, isnot_str, is_non, isnot_non, setAt_ints, aug_add, aug_sub, ints'_get, ite_ok, ite_bl])
theorem beq_decS {a b : Str} : (a == b) = decide (a = b) := by
  rw [Bool.eq_iff_iff, beq_iff_eq, decide_eq_true_iff]
theorem cmp_eqS {a b : Str} : cmpT .eq (.str a) (.str b) = .ok (decide (a = b)) := by
  show R.ok (a == b) = _
  rw [beq_decS]
theorem cmp_neS {a b : Str} : cmpT .ne (.str a) (.str b) = .ok (decide (a ≠ b)) := by
  show R.ok (!(a == b)) = _
  rw [beq_decS, decide_not]
/-- a comprehension of any pattern -/
theorem comp_gen {c : Ctx} {p : Pat} {it : It} {d e : Ex} {ρ : Env} {xs : List Tr} (ρ' : Tr → Env) (q : Tr → Bool) (g : Tr → Tr) (hx : evI c it ρ = .ok xs) (hz : xs.length ≤ 16777216) (hb : ∀ x ∈ xs, bindP p x (wipeE ρ p.slots) = .ok (ρ' x))
    (hd : ∀ x ∈ xs, evC c d (ρ' x) = .ok (q x)) (h : ∀ x ∈ xs, q x = true → evE c e (ρ' x) = .ok (g x)) : evE c (.comp p it d e) ρ = .ok (.lst ((xs.filter q).map g)) := by
  rw [evE_comp, hx, R.ok_bind]
  rw [compL_filter (g := g) (p := q) fun x hx => ?_]
  · rw [R.ok_bind, lsz_le]
    rw [List.length_map]
    exact Nat.le_trans (List.length_filter_le _ _) hz
  · show ((bindP p x (wipeE ρ p.slots)).bind _).nox = _
    rw [hb x hx, R.ok_bind]
    have hd' : tstT d (evE c d (ρ' x)) = .ok (q x) := hd x hx
    show ((tstT d (evE c d (ρ' x))).bind _).nox = _
    rw [hd', R.ok_bind]
    cases hq : q x with
    | false => rfl
    | true =>
      rw [if_pos rfl, h x hx hq]
      rfl
/-! ### whole numbers within bounds -/
def F_whole : Fn where
  name := "is_whole"
  np := 1
  N := ["value"]
  body := .cons (.ret (.and (.isi .int (.var 0)) (.not (.isi .bool (.var 0))))) .nil
  fr := true
def F_within (fw : Nat) : Fn where
  name := "is_within"
  np := 3
  N := ["value", "low", "high"]
  body := .cons (.ret (.and (.call fw (.cons (.var 0) (.nil))) (.chain .le .le (.var 1) (.var 0) (.var 2)))) .nil
  fr := true
section
variable {fs : List Fn} {gl : List Tr} {fuel k f fw : Nat}
theorem whole_int (hf : fs[f]? = some F_whole) (x : Int) : runF fs gl fuel (k + 1) f [.int x] = .ok (.bl true) := by
  refine run_eq hf rfl ?_
  show wp _ (execs _ _ [some (.int x)])
  simp only [F_whole]
  walk_at "sx"
theorem within_int (hf : fs[f]? = some (F_within fw)) (hw : fs[fw]? = some F_whole) (x a b : Int) : runF fs gl fuel (k + 2) f [.int x, .int a, .int b] = .ok (.bl (decide (a ≤ x ∧ x ≤ b))) := by
  refine run_eq hf rfl ?_
  show wp _ (execs _ _ [some (.int x), some (.int a), some (.int b)])
  simp only [F_within]
  have q : runF fs gl fuel (k + 1) fw [.int x] = .ok (.bl true) := whole_int hw x
  walk_at "sx"
  simp only [q, R.ok_bind]
  walk_at "sx"
  by_cases h : a ≤ x
  · simp only [h, decide_true, if_true, true_and]
  · simp only [h, decide_false, Bool.false_eq_true, if_false, false_and]
end
/-! ### repr -/
mutual
def smB : Nat → Tr → Bool
  | _, .non | _, .bl _ => true
  | _, .int i => decide (-1000000000000 < i) && decide (i < 1000000000000)
  | _, .str x => sokB x
  | n + 1, .tup ts | n + 1, .lst ts => smBs n ts
  | _, _ => false
def smBs : Nat → List Tr → Bool
  | _, [] => true
  | n, t :: ts => smB n t && smBs n ts
end
mutual
def wtT : Tr → Nat
  | .non | .bl _ | .scr _ => 0
  | .int _ => 40
  | .str x => x.cps.size
  | .tup ts | .lst ts => wtTs ts
def wtTs : List Tr → Nat
  | [] => 0
  | t :: ts => wtT t + 1 + wtTs ts
end
theorem smBs_of {n : Nat} : ∀ {ts : List Tr}, (∀ t ∈ ts, smB n t = true) → smBs n ts = true
  | [], _ => by unfold smBs; rfl
  | t :: ts, h => by
    unfold smBs
    rw [h t List.mem_cons_self, smBs_of fun u hu => h u (List.mem_cons_of_mem _ hu)]
    rfl
theorem wtTs_le {c : Nat} : ∀ {ts : List Tr}, (∀ t ∈ ts, wtT t ≤ c) → wtTs ts ≤ ts.length * (c + 1)
  | [], _ => by unfold wtTs; omega
  | t :: ts, h => by
    have h1 := h t List.mem_cons_self
    have h2 := wtTs_le (ts := ts) fun u hu => h u (List.mem_cons_of_mem _ hu)
    unfold wtTs
    rw [List.length_cons, Nat.add_mul]
    omega
theorem log2_40 {i : Int} (h : -1000000000000 < i) (h2 : i < 1000000000000) : i.natAbs.log2 < 40 := by
  by_cases h0 : i.natAbs = 0
  · rw [h0]; decide
  · rw [Nat.log2_lt h0]
    have : (2 : Nat) ^ 40 = 1099511627776 := by decide
    omega
mutual
theorem sm_all : ∀ {n : Nat} (t : Tr), smB n t = true → shB n t = true ∧ (toPy t).showable = true ∧ (toPy t).leavesShort 13 = true ∧ (toPy t).weight ≤ wtT t
  | _, .non, _ => ⟨by first | rfl | (unfold shB; rfl), by unfold toPy PyData.showable; rfl, by unfold toPy PyData.leavesShort; rfl, by unfold toPy PyData.weight; exact Nat.zero_le _⟩
  | _, .bl _, _ => ⟨by first | rfl | (unfold shB; rfl), by unfold toPy PyData.showable; rfl, by unfold toPy PyData.leavesShort; rfl, by unfold toPy PyData.weight; exact Nat.zero_le _⟩
  | n, .int i, h => by
    unfold smB at h
    rw [Bool.and_eq_true, decide_eq_true_iff, decide_eq_true_iff] at h
    have hl := log2_40 h.1 h.2
    refine ⟨by cases n <;> rfl, ?_, ?_, ?_⟩
    · unfold toPy PyData.showable
      rw [decide_eq_true_iff]
      omega
    · unfold toPy PyData.leavesShort
      rw [decide_eq_true_iff]
      exact PyData.shown_int_le (by omega)
    · unfold toPy PyData.weight wtT
      split <;> omega
  | n, .str x, h => by
    unfold smB at h
    refine ⟨by unfold shB; exact h, by unfold toPy PyData.showable; rfl, ?_, by unfold toPy PyData.weight wtT; exact Nat.le_refl _⟩
    unfold toPy PyData.leavesShort
    unfold sokB at h
    rw [List.all_eq_true]
    intro c hc
    rw [Array.all_eq_true_iff_forall_mem] at h
    have := h c (by simpa using hc)
    rw [decide_eq_true_iff] at this ⊢
    have e : (16 : Nat) ^ 8 = 4294967296 := by decide
    omega
  | n + 1, .tup ts, h => by
    unfold smB at h
    obtain ⟨h1, h2, h3, h4⟩ := sms_all ts h
    exact ⟨by unfold shB; exact h1, by unfold toPy PyData.showable; exact h2, by unfold toPy PyData.leavesShort; exact h3, by unfold toPy PyData.weight wtT; exact h4⟩
  | n + 1, .lst ts, h => by
    unfold smB at h
    obtain ⟨h1, h2, h3, h4⟩ := sms_all ts h
    exact ⟨by unfold shB; exact h1, by unfold toPy PyData.showable; exact h2, by unfold toPy PyData.leavesShort; exact h3, by unfold toPy PyData.weight wtT; exact h4⟩
  | 0, .tup _, h => by unfold smB at h; cases h
  | 0, .lst _, h => by unfold smB at h; cases h
  | 0, .scr _, h => by unfold smB at h; cases h
  | n + 1, .scr _, h => by unfold smB at h; cases h
theorem sms_all : ∀ {n : Nat} (ts : List Tr), smBs n ts = true → shBs n ts = true ∧ PyData.showableAll (toPys ts) = true ∧ PyData.leavesShortAll 13 (toPys ts) = true ∧ PyData.weightAll (toPys ts) ≤ wtTs ts
  | n, [], _ => ⟨by unfold shBs; rfl, by unfold toPys PyData.showableAll; rfl, by unfold toPys PyData.leavesShortAll; rfl, by unfold toPys PyData.weightAll; exact Nat.zero_le _⟩
  | n, t :: ts, h => by
    unfold smBs at h
    rw [Bool.and_eq_true] at h
    obtain ⟨a1, a2, a3, a4⟩ := sm_all t h.1
    obtain ⟨b1, b2, b3, b4⟩ := sms_all ts h.2
    refine ⟨?_, ?_, ?_, ?_⟩
    · unfold shBs; rw [a1, b1]; rfl
    · unfold toPys PyData.showableAll; rw [a2, b2]; rfl
    · unfold toPys PyData.leavesShortAll; rw [a3, b3]; rfl
    · unfold toPys PyData.weightAll wtTs; omega
end
theorem rep_okT {t : Tr} (h : smB 20 t = true) (hw : wtT t ≤ 1048576) : repOk t = true := by
  obtain ⟨h1, h2, h3, h4⟩ := sm_all t h
  have e : (2 : Nat) ^ 20 = 1048576 := by decide
  have h5 : (toPy t).shown.length ≤ sizeLine := PyData.shown_fits (B := 13) (by decide) (by decide) h3 (by omega)
  unfold repOk
  rw [show sh t = true from shB_mono t (by omega) h1, h2, Bool.true_and, Bool.true_and, decide_eq_true_iff]
  exact h5
theorem rep_tup {ts : List Tr} (h : repOk (.tup ts) = true) : biT .repr [.tup ts] = .ok (.str (toPy (.tup ts)).shown) := if_pos h
theorem rep_lst {ts : List Tr} (h : repOk (.lst ts) = true) : biT .repr [.lst ts] = .ok (.str (toPy (.lst ts)).shown) := if_pos h
end Jr.P

/-! Plain: truth values in lists, comprehensions of two turns, lists of numbers compared. -/
namespace Jr.P
open PySem Jr
local macro_rules | `(tactic| walk_at "sx") => `(tactic| simp (disch := omega) only [evE_int, evE_bl, evE_non, evE_str, evE_var, evE_gl, evE_im, evE_bin, evE_neg, evE_not, evE_cmp, evE_chain, evE_and, evE_or, evE_ite, evE_tup, evE_lst, evE_idx, evE_slc, evE_rev, evE_call, evE_bi, evE_isi, evEs_nil, evEs_cons, evI_of, evI_rng1, evI_rng2, evI_enum, evI_zip, exec_set, exec_setp, exec_par, exec_seti, exec_aug, exec_app, exec_ife, exec_ret, exec_retn, exec_brk, exec_cnt, exec_pass, exec_expr, evC_def, tstT, parT, R.ok_bind, R.ok_out, R.ok_nox, wp_nx, wp_rt, wp_bk, wp_ct, wp_nil, wp_cons, later_nx, later_rt, later_bk, later_ct, later_n, later_r, later_r', later_b', later_c', List.getElem?_cons_zero, List.getElem?_cons_succ, Option.getD_some, Option.getD_none, ofO_some, List.set_cons_zero, List.set_cons_succ, bin_add, bin_sub, mul_r, mul_l, bin_fdiv, bin_mod, pow_18, cmp_eq, cmp_ne, cmp_lt, cmp_le, cmp_gt, cmp_ge, tru_bl, tru_int, neg_int, int_int, int_bl, abs_int, len_lst, len_tup, len_scr, max_int, min_int, list_lst, list_tup, tuple_lst, sum_ints, idx_ints, idx_scr, idx_3, idx_2, rng_1, rng_2, itemsT, bindP_var, bindP_tup, bindPs_nil, bindPs_cons, divmod_int, lsz_le, lsz_0, lsz_1, lsz_2, lsz_3, lsz_4, lsz_5, lsz_6, lsz_7, lsz_8, if_lt_SZ, if_le_SZ, ints'_snoc, List.length_append, ints'_length, List.length_nil, List.length_cons, Nat.reduceAdd, Bool.false_eq_true, if_true, if_false, reduceIte, intO, ne_eq, not_true_eq_false, not_false_eq_true, decide_true, decide_false, Bool.not_true, Bool.not_false, isi_int_lst, isi_int_tup, isi_int_int, isi_int_bl, isi_int_str, isi_int_non, isi_bool_lst, isi_bool_tup, isi_bool_int, isi_bool_bl, isi_bool_str, isi_bool_non, isi_str_lst, isi_str_tup, isi_str_int, isi_str_bl, isi_str_str, isi_str_non, isi_list_lst, isi_list_tup, isi_list_int, isi_list_bl, isi_list_str, isi_list_non, isi_tuple_lst, isi_tuple_tup, isi_tuple_int, isi_tuple_bl, isi_tuple_str, isi_tuple_non, is_lst, isnot_lst, is_tup, isnot_tup, is_int, isnot_int, is_bl, isnot_bl, is_str, isnot_str, is_non, isnot_non, setAt_ints, aug_add, aug_sub, ints'_get, ite_ok, ite_bl])
local macro_rules | `(tactic| walk_at "sxs") => `(tactic| simp (disch := omega) only [*, evE_int, evE_bl, evE_non, evE_str, evE_var, evE_gl, evE_im, evE_bin, evE_neg, evE_not, evE_cmp, evE_chain, evE_and, evE_or, evE_ite, evE_tup, evE_lst, evE_idx, evE_slc, evE_rev, evE_call, evE_bi, evE_isi, evEs_nil, evEs_cons, evI_of, evI_rng1, evI_rng2, evI_enum, evI_zip, exec_set, exec_setp, exec_par, exec_seti, exec_aug, exec_app, exec_ife, exec_ret, exec_retn, exec_brk, exec_cnt, exec_pass, exec_expr, evC_def, tstT, parT, R.ok_bind, R.ok_out, R.ok_nox, wp_nx, wp_rt, wp_bk, wp_ct, wp_nil, wp_cons, later_nx, later_rt, later_bk, later_ct, later_n, later_r, later_r', later_b', later_c', List.getElem?_cons_zero, List.getElem?_cons_succ, Option.getD_some, Option.getD_none, ofO_some, List.set_cons_zero, List.set_cons_succ, bin_add, bin_sub, mul_r, mul_l, bin_fdiv, bin_mod, pow_18, cmp_eq, cmp_ne, cmp_lt, cmp_le, cmp_gt, cmp_ge, tru_bl, tru_int, neg_int, int_int, int_bl, abs_int, len_lst, len_tup, len_scr, max_int, min_int, list_lst, list_tup, tuple_lst, sum_ints, idx_ints, idx_scr, idx_3, idx_2, rng_1, rng_2, itemsT, bindP_var, bindP_tup, bindPs_nil, bindPs_cons, divmod_int, lsz_le, lsz_0, lsz_1, lsz_2, lsz_3, lsz_4, lsz_5, lsz_6, lsz_7, lsz_8, if_lt_SZ, if_le_SZ, ints'_snoc, List.length_append, ints'_length, List.length_nil, List.length_cons, Nat.reduceAdd, Bool.false_eq_true, if_true, if_false, reduceIte, intO, ne_eq, not_true_eq_false, not_false_eq_true, decide_true, decide_false, Bool.not_true, Bool.not_false, isi_int_lst, isi_int_tup, isi_int_int, isi_int_bl, isi_int_str, isi_int_non, isi_bool_lst, isi_bool_tup, isi_bool_int, isi_bool_bl, isi_bool_str, isi_bool_non, isi_str_lst, isi_str_tup, isi_str_int, isi_str_bl, isi_str_str, isi_str_non, isi_list_lst, isi_list_tup, isi_list_int, isi_list_bl, isi_list_str, isi_list_non, isi_tuple_lst, isi_tuple_tup, isi_tuple_int, isi_tuple_bl, isi_tuple_str, isi_tuple_non, is_lst, isnot_lst, is_tup, isnot_tup, is_int, isnot_int, is_bl, isnot_bl, is_str, isnot_str, is_non, isnot_non, setAt_ints, aug_add, aug_sub, ints'_get, ite_ok, ite_bl])
theorem inn_row {x : Int} {xs : List Int} : cmpT .inn (.int x) (rowT xs) = .ok (decide (x ∈ xs)) := inn_ints (x := x) (xs := xs)
theorem notin_row {x : Int} {xs : List Int} : cmpT .notin (.int x) (rowT xs) = .ok (decide (x ∉ xs)) := notin_ints (x := x) (xs := xs)
def bls (bs : List Bool) : List Tr := bs.map Tr.bl
theorem blsO_bls : ∀ bs : List Bool, blsO (bls bs) = some bs
  | [] => rfl
  | b :: bs => by
    show (blsO (bls bs)).map (b :: ·) = _
    rw [blsO_bls bs]
    rfl
theorem all_bls {bs : List Bool} : biT .all [.lst (bls bs)] = .ok (.bl (bs.all id)) := by
  show (ofO (blsO (bls bs))).bind (fun bs => R.ok (Tr.bl (bs.all id))) = _
  rw [blsO_bls]
  rfl
theorem any_bls {bs : List Bool} : biT .any [.lst (bls bs)] = .ok (.bl (bs.any id)) := by
  show (ofO (blsO (bls bs))).bind (fun bs => R.ok (Tr.bl (bs.any id))) = _
  rw [blsO_bls]
  rfl
/-- a comprehension over whole numbers, its items truth values -/
theorem comp_ib {c : Ctx} {v : Nat} {it : It} {e : Ex} {ρ : Env} {xs : List Int} (p : Int → Bool) (hx : evI c it ρ = .ok (ints' xs)) (hz : xs.length ≤ 16777216)
    (h : ∀ x ∈ xs, evE c e ((ρ.set v none).set v (some (.int x))) = .ok (.bl (p x))) : evE c (.comp (.var v) it .nil e) ρ = .ok (.lst (bls (xs.map p))) := by
  rw [comp_lst (xs := ints' xs) (fun t => match t with | .int x => .bl (p x) | t => t) hx (by rw [ints'_length]; exact hz) fun t ht => ?_]
  · congr 2
    unfold ints' bls
    rw [List.map_map, List.map_map]
    rfl
  · obtain ⟨x, hx, rfl⟩ := List.mem_map.mp ht
    exact h x hx
/-- a comprehension of two turns -/
theorem comp2_gen {c : Ctx} {p q : Pat} {it it2 : It} {d e : Ex} {ρ : Env} {xs : List Tr} (F : Tr → List Tr) (hx : evI c it ρ = .ok xs)
    (h : ∀ x ∈ xs, ∃ ρ1 ys, bindP p x (wipeE ρ (p.slots ++ q.slots)) = .ok ρ1 ∧ evI c it2 ρ1 = .ok ys ∧ ∃ (ρ' : Tr → Env) (k : Tr → Bool) (g : Tr → Tr), (∀ y ∈ ys, bindP q y (wipeE ρ1 q.slots) = .ok (ρ' y) ∧ evC c d (ρ' y) = .ok (k y) ∧ (k y = true → evE c e (ρ' y) = .ok (g y))) ∧ F x = (ys.filter k).map g)
    (hz : (xs.flatMap F).length ≤ 16777216) : evE c (.comp2 p it q it2 d e) ρ = .ok (.lst (xs.flatMap F)) := by
  rw [evE_comp2, hx, R.ok_bind]
  have key : ∀ l : List Tr, (∀ x ∈ l, x ∈ xs) → compLL (fun x => ((bindP p x (wipeE ρ (p.slots ++ q.slots))).bind fun ρ1 => (evI c it2 ρ1).bind fun ys =>
        compL (fun y => ((bindP q y (wipeE ρ1 q.slots)).bind fun ρ' => (tstT d (evE c d ρ')).bind fun t =>
          if t then (evE c e ρ').bind fun z => .ok (some z) else .ok none).nox) ys).nox) l = .ok (l.flatMap F) := by
    intro l
    induction l with
    | nil => intro _; rfl
    | cons x l ih =>
      intro hl
      obtain ⟨ρ1, ys, h1, h2, ρ', k, g, h3, h4⟩ := h x (hl x List.mem_cons_self)
      rw [compLL, h1, R.ok_bind, h2, R.ok_bind]
      rw [compL_filter (g := g) (p := k) fun y hy => ?_]
      · rw [R.ok_nox, R.ok_bind, ih fun x hx => hl x (List.mem_cons_of_mem _ hx), R.ok_bind, List.flatMap_cons, h4]
      · obtain ⟨h5, h6, h7⟩ := h3 y hy
        rw [h5, R.ok_bind]
        have h6' : tstT d (evE c d (ρ' y)) = .ok (k y) := h6
        rw [h6', R.ok_bind]
        cases hk : k y with
        | false => rfl
        | true => rw [if_pos rfl, h7 hk]; rfl
  rw [key xs fun x hx => hx, R.ok_bind, lsz_le hz]
theorem flat_len {α β : Type} {F : α → List β} {c : Nat} : ∀ {xs : List α}, (∀ x ∈ xs, (F x).length ≤ c) → (xs.flatMap F).length ≤ xs.length * c
  | [], _ => by simp
  | x :: xs, h => by
    have h1 := h x List.mem_cons_self
    have h2 := flat_len (xs := xs) fun y hy => h y (List.mem_cons_of_mem _ hy)
    rw [List.flatMap_cons, List.length_append, List.length_cons, Nat.add_mul]
    omega
theorem idx_hd {a : Int} {l : List Int} : idxT (.lst (ints' (a :: l))) (.int 0) = .ok (.int a) := rfl
theorem tru_nil : tru (.lst (ints' [])) = .ok false := rfl
theorem tru_cons {a : Int} {l : List Int} : tru (.lst (ints' (a :: l))) = .ok true := rfl
theorem tru_ints {l : List Int} : tru (.lst (ints' l)) = .ok (!l.isEmpty) := by cases l <;> rfl
theorem cmp_eqB {a b : Bool} : cmpT .eq (.bl a) (.bl b) = .ok (a == b) := by cases a <;> cases b <;> rfl
theorem cmp_neB {a b : Bool} : cmpT .ne (.bl a) (.bl b) = .ok (a != b) := by cases a <;> cases b <;> rfl
theorem cmp_eqT {a b : Tr} : cmpT .eq a b = eqT a b := no_rfl rfl
theorem cmp_neT {a b : Tr} : cmpT .ne a b = (eqT a b).bind fun r => .ok (!r) := no_rfl rfl
theorem eqvs_ints : ∀ (a b : List Int), eqvs (ints' a) (ints' b) = decide (a = b)
  | [], [] => rfl
  | [], b :: bs => rfl
  | a :: as, [] => rfl
  | a :: as, b :: bs => by
    show (a == b && eqvs (ints' as) (ints' bs)) = _
    rw [eqvs_ints as bs]
    by_cases h1 : a = b
    · by_cases h2 : as = bs
      · simp [h1, h2]
      · simp [h1, h2]
    · simp [h1]
theorem eqT_ints {a b : List Int} : eqT (.lst (ints' a)) (.lst (ints' b)) = .ok (decide (a = b)) := by
  show (if (sh (.lst (ints' a)) && sh (.lst (ints' b))) = true then R.ok (eqvs (ints' a) (ints' b)) else .no) = _
  rw [sh_ints, sh_ints, Bool.and_self, if_pos rfl, eqvs_ints]
theorem cmp_eqL {a b : List Int} : cmpT .eq (.lst (ints' a)) (.lst (ints' b)) = .ok (decide (a = b)) := by
  rw [cmp_eqT, eqT_ints]
theorem cmp_neL {a b : List Int} : cmpT .ne (.lst (ints' a)) (.lst (ints' b)) = .ok (decide (a ≠ b)) := by
  rw [cmp_neT, eqT_ints, R.ok_bind, decide_not]
/-- ascending lists with the same items -/
theorem asc_eq : ∀ {A B : List Int}, A.Pairwise (fun x y => x < y) → B.Pairwise (fun x y => x < y) → (∀ x, x ∈ A ↔ x ∈ B) → A = B
  | [], [], _, _, _ => rfl
  | [], b :: B, _, _, h => absurd ((h b).mpr List.mem_cons_self) (by simp)
  | a :: A, [], _, _, h => absurd ((h a).mp List.mem_cons_self) (by simp)
  | a :: A, b :: B, hA, hB, h => by
    rw [List.pairwise_cons] at hA hB
    have e : a = b := by
      rcases List.mem_cons.mp ((h a).mp List.mem_cons_self) with e | ha
      · exact e
      · rcases List.mem_cons.mp ((h b).mpr List.mem_cons_self) with e | hb
        · exact e.symm
        · have h1 := hA.1 b hb
          have h2 := hB.1 a ha
          omega
    subst e
    rw [asc_eq hA.2 hB.2 fun x => ?_]
    constructor
    · intro hx
      rcases List.mem_cons.mp ((h x).mp (List.mem_cons_of_mem _ hx)) with e | hx'
      · have := hA.1 x hx
        omega
      · exact hx'
    · intro hx
      rcases List.mem_cons.mp ((h x).mpr (List.mem_cons_of_mem _ hx)) with e | hx'
      · have := hB.1 x hx
        omega
      · exact hx'
theorem asc_of {P : List Int} (h : ∀ i : Nat, ∀ hi : i + 1 < P.length, P[i] < P[i + 1]) : P.Pairwise (fun x y => x < y) := by
  rw [List.pairwise_iff_getElem]
  intro i j hi hj hij
  induction j with
  | zero => omega
  | succ j ih =>
    have h1 := h j hj
    by_cases e : i = j
    · subst e
      exact h1
    · have := ih (by omega) (by omega)
      omega
end Jr.P

/-! Plain: pairs sorted, lists given by a function of the place. -/
namespace Jr.P
open PySem PySem.W Jr
local macro_rules | `(tactic| walk_at "sx") => `(tactic| simp (disch := omega) only [evE_int, evE_bl, evE_non, evE_str, evE_var, evE_gl, evE_im, evE_bin, evE_neg, evE_not, evE_cmp, evE_chain, evE_and, evE_or, evE_ite, evE_tup, evE_lst, evE_idx, evE_slc, evE_ind, lstT_lst, evE_rev, evE_call, evE_bi, evE_isi, evEs_nil, evEs_cons, evI_of, evI_rng1, evI_rng2, evI_enum, evI_zip, exec_set, exec_setp, exec_par, exec_seti, exec_aug, exec_app, exec_ife, exec_ret, exec_retn, exec_brk, exec_cnt, exec_pass, exec_expr, evC_def, tstT, parT, R.ok_bind, R.ok_out, R.ok_nox, wp_nx, wp_rt, wp_bk, wp_ct, wp_nil, wp_cons, later_nx, later_rt, later_bk, later_ct, later_n, later_r, later_r', later_b', later_c', List.getElem?_cons_zero, List.getElem?_cons_succ, Option.getD_some, Option.getD_none, ofO_some, List.set_cons_zero, List.set_cons_succ, bin_add, bin_sub, mul_r, mul_l, bin_fdiv, bin_mod, pow_18, cmp_eq, cmp_ne, cmp_lt, cmp_le, cmp_gt, cmp_ge, tru_bl, tru_int, neg_int, int_int, int_bl, abs_int, len_lst, len_tup, len_scr, max_int, min_int, list_lst, list_tup, tuple_lst, sum_ints, idx_ints, idx_scr, idx_3, idx_2, rng_1, rng_2, itemsT, bindP_var, bindP_tup, bindPs_nil, bindPs_cons, divmod_int, lsz_le, lsz_0, lsz_1, lsz_2, lsz_3, lsz_4, lsz_5, lsz_6, lsz_7, lsz_8, if_lt_SZ, if_le_SZ, ints'_snoc, List.length_append, ints'_length, List.length_nil, List.length_cons, Nat.reduceAdd, Bool.false_eq_true, if_true, if_false, reduceIte, intO, ne_eq, not_true_eq_false, not_false_eq_true, decide_true, decide_false, Bool.not_true, Bool.not_false, isi_int_lst, isi_int_tup, isi_int_int, isi_int_bl, isi_int_str, isi_int_non, isi_bool_lst, isi_bool_tup, isi_bool_int, isi_bool_bl, isi_bool_str, isi_bool_non, isi_str_lst, isi_str_tup, isi_str_int, isi_str_bl, isi_str_str, isi_str_non, isi_list_lst, isi_list_tup, isi_list_int, isi_list_bl, isi_list_str, isi_list_non, isi_tuple_lst, isi_tuple_tup, isi_tuple_int, isi_tuple_bl, isi_tuple_str, isi_tuple_non, is_lst, isnot_lst, is_tup, isnot_tup, is_int, isnot_int, is_bl, isnot_bl, is_str, isnot_str, is_non, isnot_non, setAt_ints, aug_add, aug_sub, ints'_get])
local macro_rules | `(tactic| walk_at "sxs") => `(tactic| simp (disch := omega) only [*, evE_int, evE_bl, evE_non, evE_str, evE_var, evE_gl, evE_im, evE_bin, evE_neg, evE_not, evE_cmp, evE_chain, evE_and, evE_or, evE_ite, evE_tup, evE_lst, evE_idx, evE_slc, evE_ind, lstT_lst, evE_rev, evE_call, evE_bi, evE_isi, evEs_nil, evEs_cons, evI_of, evI_rng1, evI_rng2, evI_enum, evI_zip, exec_set, exec_setp, exec_par, exec_seti, exec_aug, exec_app, exec_ife, exec_ret, exec_retn, exec_brk, exec_cnt, exec_pass, exec_expr, evC_def, tstT, parT, R.ok_bind, R.ok_out, R.ok_nox, wp_nx, wp_rt, wp_bk, wp_ct, wp_nil, wp_cons, later_nx, later_rt, later_bk, later_ct, later_n, later_r, later_r', later_b', later_c', List.getElem?_cons_zero, List.getElem?_cons_succ, Option.getD_some, Option.getD_none, ofO_some, List.set_cons_zero, List.set_cons_succ, bin_add, bin_sub, mul_r, mul_l, bin_fdiv, bin_mod, pow_18, cmp_eq, cmp_ne, cmp_lt, cmp_le, cmp_gt, cmp_ge, tru_bl, tru_int, neg_int, int_int, int_bl, abs_int, len_lst, len_tup, len_scr, max_int, min_int, list_lst, list_tup, tuple_lst, sum_ints, idx_ints, idx_scr, idx_3, idx_2, rng_1, rng_2, itemsT, bindP_var, bindP_tup, bindPs_nil, bindPs_cons, divmod_int, lsz_le, lsz_0, lsz_1, lsz_2, lsz_3, lsz_4, lsz_5, lsz_6, lsz_7, lsz_8, if_lt_SZ, if_le_SZ, ints'_snoc, List.length_append, ints'_length, List.length_nil, List.length_cons, Nat.reduceAdd, Bool.false_eq_true, if_true, if_false, reduceIte, intO, ne_eq, not_true_eq_false, not_false_eq_true, decide_true, decide_false, Bool.not_true, Bool.not_false, isi_int_lst, isi_int_tup, isi_int_int, isi_int_bl, isi_int_str, isi_int_non, isi_bool_lst, isi_bool_tup, isi_bool_int, isi_bool_bl, isi_bool_str, isi_bool_non, isi_str_lst, isi_str_tup, isi_str_int, isi_str_bl, isi_str_str, isi_str_non, isi_list_lst, isi_list_tup, isi_list_int, isi_list_bl, isi_list_str, isi_list_non, isi_tuple_lst, isi_tuple_tup, isi_tuple_int, isi_tuple_bl, isi_tuple_str, isi_tuple_non, is_lst, isnot_lst, is_tup, isnot_tup, is_int, isnot_int, is_bl, isnot_bl, is_str, isnot_str, is_non, isnot_non, setAt_ints, aug_add, aug_sub, ints'_get])
/-! ### pairs -/
def pT (x : Int × Int) : Tr := .tup [.int x.1, .int x.2]
theorem ltv_pair (x y : Int × Int) : ltv (pT x) (pT y) = decide (x.1 < y.1 ∨ x.1 = y.1 ∧ x.2 < y.2) := by
  have lexa : ∀ (p q : Int) (l m : List (Sum Int (List Nat))), PyProof.Rows.lexLt PyProof.Rows.itemOrd (.inl p :: l) (.inl q :: m) = if p = q then PyProof.Rows.lexLt PyProof.Rows.itemOrd l m else decide (p < q) := by
    intro p q l m
    by_cases h : p = q
    · subst h
      rw [if_pos rfl]
      exact PyProof.Rows.lex_self (O := PyProof.Rows.itemOrd) _ l m
    · rw [if_neg h]
      have h2 : (Sum.inl p : Int ⊕ List Nat) ≠ Sum.inl q := fun e => h (Sum.inl.inj e)
      rw [lex_atom h2]
      have := dataLt_int p q
      unfold dataLt at this
      simp only [keyToks] at this
      exact this
  show dataLt (.tuple [.int x.1, .int x.2]) (.tuple [.int y.1, .int y.2]) = _
  rw [dataLt_tuple]
  simp only [keyToksAll, keyToks, List.cons_append, List.nil_append]
  rw [lexa, if_pos rfl, lexa]
  by_cases h1 : x.1 = y.1
  · rw [if_pos h1, lexa, if_pos rfl, lexa]
    by_cases h2 : x.2 = y.2
    · rw [if_pos h2]
      have e : PyProof.Rows.lexLt PyProof.Rows.itemOrd [.inl 0] [.inl 0] = false := (lexa 0 0 [] []).trans rfl
      rw [e]
      symm
      rw [decide_eq_false_iff_not]
      omega
    · rw [if_neg h2]
      rw [Bool.eq_iff_iff, decide_eq_true_iff, decide_eq_true_iff]
      omega
  · rw [if_neg h1, Bool.eq_iff_iff, decide_eq_true_iff, decide_eq_true_iff]
    omega
def psrt (ps : List (Int × Int)) : List (Int × Int) := ps.mergeSort fun a b => decide (a.1 < b.1 ∨ a.1 = b.1 ∧ a.2 ≤ b.2)
theorem psrt_perm (xs : List (Int × Int)) : (psrt xs).Perm xs := List.mergeSort_perm _ _
theorem psrt_pw (xs : List (Int × Int)) : (psrt xs).Pairwise fun a b => a.1 < b.1 ∨ a.1 = b.1 ∧ a.2 ≤ b.2 := by
  have h := List.pairwise_mergeSort (le := fun a b : Int × Int => decide (a.1 < b.1 ∨ a.1 = b.1 ∧ a.2 ≤ b.2)) (fun a b c h1 h2 => by simp only [decide_eq_true_iff] at h1 h2 ⊢; omega) (fun a b => by simp only [Bool.or_eq_true, decide_eq_true_iff]; omega) xs
  exact h.imp fun h => of_decide_eq_true h
theorem sorted_pairs {xs : List (Int × Int)} : biT .sorted [.lst (xs.map pT)] = .ok (.lst ((psrt xs).map pT)) := by
  have hs : srtOk (xs.map pT) = true := by
    unfold srtOk
    simp only [Bool.and_eq_true, Bool.or_eq_true, List.all_eq_true]
    refine ⟨⟨fun t ht u hu => ?_, .inl (.inl fun t ht => ?_)⟩, fun t ht => ?_⟩
    · obtain ⟨a, _, rfl⟩ := List.mem_map.mp ht
      obtain ⟨b, _, rfl⟩ := List.mem_map.mp hu
      exact alk_rows [a.1, a.2] [b.1, b.2]
    · obtain ⟨a, _, rfl⟩ := List.mem_map.mp ht
      rfl
    · obtain ⟨a, _, rfl⟩ := List.mem_map.mp ht
      exact sh_row [a.1, a.2]
  show (if srtOk (xs.map pT) = true then R.ok (Tr.lst (srtT (xs.map pT))) else .no) = _
  rw [if_pos hs]
  congr 2
  unfold srtT psrt
  rw [List.map_mergeSort (s := fun a b => !ltv b a)]
  intro a _ b _
  rw [ltv_pair, Bool.eq_iff_iff, Bool.not_eq_true', decide_eq_true_iff, decide_eq_false_iff_not]
  omega
theorem b_pair {i j : Nat} {x : Int × Int} (ρ : Jr.Env) : bindP (.tup [.var i, .var j]) (pT x) ρ = .ok ((ρ.set i (some (.int x.1))).set j (some (.int x.2))) := rfl
theorem idx_p0 {x : Int × Int} : idxT (pT x) (.int 0) = .ok (.int x.1) := rfl
theorem idx_p1 {x : Int × Int} : idxT (pT x) (.int 1) = .ok (.int x.2) := rfl
/-! ### lists given by a function of the place -/
def fT (n : Nat) (g : Int → Tr) : List Tr := (List.range n).map fun k : Nat => g k
def up (g : Int → Tr) (k : Int) (t : Tr) : Int → Tr := fun x => if x = k then t else g x
theorem fT_length {n : Nat} {g : Int → Tr} : (fT n g).length = n := by rw [fT, List.length_map, List.length_range]
theorem fT_get {n : Nat} {g : Int → Tr} {i : Nat} (h : i < (fT n g).length) : (fT n g)[i] = g i := by simp [fT]
theorem fT_congr {n : Nat} {g g' : Int → Tr} (h : ∀ x : Int, 0 ≤ x → x < n → g x = g' x) : fT n g = fT n g' := List.map_congr_left fun i hi => h i (by omega) (by have := List.mem_range.mp hi; omega)
theorem setAt_fT {n : Nat} {g : Int → Tr} {k : Int} {t : Tr} (h0 : 0 ≤ k) (h1 : k < n) : setAt (fT n g) k t = some (fT n (up g k t)) := by
  unfold setAt
  rw [if_pos h0, if_pos (by rw [fT_length]; exact h1)]
  refine congrArg some (List.ext_getElem (by rw [List.length_set, fT_length, fT_length]) fun i hi hi2 => ?_)
  rw [List.getElem_set, fT_get, fT_get hi2]
  unfold up
  by_cases e : k.toNat = i
  · rw [if_pos e, if_pos (by omega)]
  · rw [if_neg e, if_neg (by omega)]
theorem idx_fT {n : Nat} {g : Int → Tr} {k : Int} (h0 : 0 ≤ k) (h1 : k < n) : idxT (.lst (fT n g)) (.int k) = .ok (g k) := by
  have : idxT (.lst (fT n g)) (.int k) = ofO (at' (fT n g) k) := rfl
  rw [this]
  unfold at'
  rw [if_pos h0, List.getElem?_eq_getElem (by rw [fT_length]; omega), fT_get]
  rw [show ((k.toNat : Nat) : Int) = k by omega]
  rfl
theorem fT_ints {n : Nat} {f : Int → Int} : fT n (fun k => .int (f k)) = ints' ((List.range n).map fun k : Nat => f k) := by
  unfold fT ints'
  rw [List.map_map]
  rfl
theorem mul_one {t : Tr} {n : Nat} (h : n ≤ 16777216) : binT .mul (.lst [t]) (.int n) = .ok (.lst (fT n fun _ => t)) := by
  show (if (smallOk n && decide (1 * ((n : Int)).toNat ≤ SZ)) = true then R.ok (Tr.lst (List.replicate ((n : Int)).toNat [t]).flatten) else .no) = _
  have h1 : smallOk n = true := by
    unfold smallOk
    simp only [Bool.and_eq_true, decide_eq_true_iff]
    exact ⟨by have : (-(2 ^ 62) : Int) = -4611686018427387904 := rfl
              omega, by have : ((2 ^ 62) : Int) = 4611686018427387904 := rfl
                        omega⟩
  rw [if_pos]
  · refine congrArg (fun x => R.ok (Tr.lst x)) ?_
    rw [Int.toNat_natCast]
    unfold fT
    clear h h1
    induction n with
    | zero => rfl
    | succ n ih =>
      rw [List.replicate_succ', List.flatten_append, ih, List.range_succ, List.map_append]
      rfl
  · rw [h1]
    simp only [Bool.true_and, decide_eq_true_iff]
    have : SZ = 16777216 := rfl
    omega
/-- what stands for each of some different places -/
theorem exists_fn {ks : List Int} {F : List Int} (hl : F.length = ks.length) (hn : ks.Nodup) : ∃ D : Int → Int, ks.map D = F := by
  induction ks generalizing F with
  | nil => exact ⟨fun _ => 0, (List.length_eq_zero_iff.mp hl).symm⟩
  | cons k ks ih =>
    cases F with
    | nil => exact absurd hl (by simp)
    | cons f F =>
      rw [List.nodup_cons] at hn
      obtain ⟨D, hD⟩ := ih (F := F) (by simpa using hl) hn.2
      refine ⟨fun x => if x = k then f else D x, ?_⟩
      rw [List.map_cons, if_pos rfl, ← hD]
      refine congrArg _ (List.map_congr_left fun x hx => ?_)
      rw [if_neg]
      rintro rfl
      exact hn.1 hx
/-! ### comprehensions over lists of anything -/
theorem compL_a {α : Type} {f : Tr → R (Option Tr)} {e : α → Tr} {q : α → Bool} {g : α → Tr} : ∀ {xs : List α}, (∀ x ∈ xs, f (e x) = .ok (if q x then some (g x) else none)) → compL f (xs.map e) = .ok ((xs.filter q).map g)
  | [], _ => rfl
  | x :: xs, h => by
    rw [List.map_cons, compL, h x List.mem_cons_self, R.ok_bind, compL_a fun y hy => h y (List.mem_cons_of_mem _ hy), R.ok_bind, List.filter_cons]
    cases q x <;> rfl
theorem comp_a {α : Type} {c : Ctx} {p : Pat} {it : It} {d b : Ex} {ρ : Env} {xs : List α} (e : α → Tr) (ρ' : α → Env) (q : α → Bool) (g : α → Tr) (hx : evI c it ρ = .ok (xs.map e)) (hz : xs.length ≤ 16777216) (hb : ∀ x ∈ xs, bindP p (e x) (wipeE ρ p.slots) = .ok (ρ' x))
    (hd : ∀ x ∈ xs, evC c d (ρ' x) = .ok (q x)) (h : ∀ x ∈ xs, q x = true → evE c b (ρ' x) = .ok (g x)) : evE c (.comp p it d b) ρ = .ok (.lst ((xs.filter q).map g)) := by
  rw [evE_comp, hx, R.ok_bind]
  rw [compL_a (g := g) (q := q) fun x hx => ?_]
  · rw [R.ok_bind, lsz_le]
    rw [List.length_map]
    exact Nat.le_trans (List.length_filter_le _ _) hz
  · show ((bindP p (e x) (wipeE ρ p.slots)).bind _).nox = _
    rw [hb x hx, R.ok_bind]
    have hd' : tstT d (evE c d (ρ' x)) = .ok (q x) := hd x hx
    show ((tstT d (evE c d (ρ' x))).bind _).nox = _
    rw [hd', R.ok_bind]
    cases hq : q x with
    | false => rfl
    | true =>
      rw [if_pos rfl, h x hx hq]
      rfl
theorem comp_m {α : Type} {c : Ctx} {p : Pat} {it : It} {b : Ex} {ρ : Env} {xs : List α} (e : α → Tr) (ρ' : α → Env) (g : α → Tr) (hx : evI c it ρ = .ok (xs.map e)) (hz : xs.length ≤ 16777216) (hb : ∀ x ∈ xs, bindP p (e x) (wipeE ρ p.slots) = .ok (ρ' x))
    (h : ∀ x ∈ xs, evE c b (ρ' x) = .ok (g x)) : evE c (.comp p it .nil b) ρ = .ok (.lst (xs.map g)) := by
  rw [evE_comp, hx, R.ok_bind]
  rw [compL_a (g := g) (q := fun _ => true) fun x hx => ?_]
  · rw [R.ok_bind, lsz_le, List.filter_eq_self.mpr fun _ _ => rfl]
    rw [List.length_map]
    exact Nat.le_trans (List.length_filter_le _ _) hz
  · show ((bindP p (e x) (wipeE ρ p.slots)).bind _).nox = _
    rw [hb x hx, R.ok_bind, tst_nil, R.ok_bind, if_pos rfl, h x hx]
    rfl
theorem enum_fT {n : Nat} {g : Int → Tr} : enumT (.lst (fT n g)) = .ok ((List.range n).map fun k : Nat => .tup [.int k, g k]) := by
  show R.ok (enumL (fT n g)) = _
  refine congrArg R.ok ?_
  unfold enumL
  refine List.ext_getElem (by simp [fT]) fun i h1 h2 => ?_
  rw [List.getElem_map, List.getElem_map, List.getElem_zipIdx, List.getElem_range, fT_get]
  simp
/-! ### slices, first items -/
theorem slc_take {ts : List Tr} {n : Nat} : slcT (.lst ts) (some 0) (some (n : Int)) = .ok (.lst (ts.take n)) := by
  show R.ok (Tr.lst (cut ts (some 0) (some (n : Int)))) = _
  refine congrArg (fun x => R.ok (Tr.lst x)) ?_
  have h0 : sIx ts.length 0 (some 0) = 0 := by
    show (if (0 : Int) < 0 then (max ((0 : Int) + ts.length) 0).toNat else min (0 : Int).toNat ts.length) = 0
    rw [if_neg (by omega)]
    simp
  have h1 : sIx ts.length ts.length (some (n : Int)) = min n ts.length := by
    show (if (n : Int) < 0 then (max ((n : Int) + ts.length) 0).toNat else min (n : Int).toNat ts.length) = _
    rw [if_neg (by omega), Int.toNat_natCast]
  show (ts.drop (sIx ts.length 0 (some 0))).take (sIx ts.length ts.length (some (n : Int)) - sIx ts.length 0 (some 0)) = _
  rw [h0, h1, List.drop_zero, Nat.sub_zero]
  by_cases h : n ≤ ts.length
  · rw [Nat.min_eq_left h]
  · rw [Nat.min_eq_right (by omega), List.take_of_length_le (Nat.le_refl _), List.take_of_length_le (by omega)]
theorem slc_drop {ts : List Tr} {n : Nat} : slcT (.lst ts) (some (n : Int)) none = .ok (.lst (ts.drop n)) := by
  show R.ok (Tr.lst (cut ts (some (n : Int)) none)) = _
  refine congrArg (fun x => R.ok (Tr.lst x)) ?_
  have h1 : sIx ts.length 0 (some (n : Int)) = min n ts.length := by
    show (if (n : Int) < 0 then (max ((n : Int) + ts.length) 0).toNat else min (n : Int).toNat ts.length) = _
    rw [if_neg (by omega), Int.toNat_natCast]
  show (ts.drop (sIx ts.length 0 (some (n : Int)))).take (ts.length - sIx ts.length 0 (some (n : Int))) = _
  rw [h1]
  by_cases h : n ≤ ts.length
  · rw [Nat.min_eq_left h, List.take_of_length_le (by rw [List.length_drop]; omega)]
  · rw [Nat.min_eq_right (by omega), List.drop_eq_nil_of_le (Nat.le_refl _), List.drop_eq_nil_of_le (by omega), List.take_nil]
theorem idx_h0 {t : Tr} {ts : List Tr} : idxT (.lst (t :: ts)) (.int 0) = .ok t := no_rfl rfl
end Jr.P

/-! Plain: votes, what the most say. -/
namespace Jr.P
open PySem Jr
local macro_rules | `(tactic| walk_at "sx") => `(tactic| simp (disch := omega) only [evE_int, evE_bl, evE_non, evE_str, evE_var, evE_gl, evE_im, evE_bin, evE_neg, evE_not, evE_cmp, evE_chain, evE_and, evE_or, evE_ite, evE_tup, evE_lst, evE_idx, evE_slc, evE_ind, lstT_lst, evE_rev, evE_call, evE_bi, evE_isi, evEs_nil, evEs_cons, evI_of, evI_rng1, evI_rng2, evI_enum, evI_zip, exec_set, exec_setp, exec_par, exec_seti, exec_aug, exec_app, exec_ife, exec_ret, exec_retn, exec_brk, exec_cnt, exec_pass, exec_expr, evC_def, tstT, parT, R.ok_bind, R.ok_out, R.ok_nox, wp_nx, wp_rt, wp_bk, wp_ct, wp_nil, wp_cons, later_nx, later_rt, later_bk, later_ct, later_n, later_r, later_r', later_b', later_c', List.getElem?_cons_zero, List.getElem?_cons_succ, Option.getD_some, Option.getD_none, ofO_some, List.set_cons_zero, List.set_cons_succ, bin_add, bin_sub, mul_r, mul_l, bin_fdiv, bin_mod, pow_18, cmp_eq, cmp_ne, cmp_lt, cmp_le, cmp_gt, cmp_ge, tru_bl, tru_int, neg_int, int_int, int_bl, abs_int, len_lst, len_tup, len_scr, max_int, min_int, gcd_int, list_lst, list_tup, tuple_lst, sum_ints, idx_ints, idx_scr, idx_3, idx_2, rng_1, rng_2, itemsT, bindP_var, bindP_tup, bindPs_nil, bindPs_cons, divmod_int, lsz_le, lsz_0, lsz_1, lsz_2, lsz_3, lsz_4, lsz_5, lsz_6, lsz_7, lsz_8, if_lt_SZ, if_le_SZ, ints'_snoc, List.length_append, ints'_length, List.length_nil, List.length_cons, Nat.reduceAdd, Bool.false_eq_true, if_true, if_false, reduceIte, intO, ne_eq, not_true_eq_false, not_false_eq_true, decide_true, decide_false, Bool.not_true, Bool.not_false, isi_int_lst, isi_int_tup, isi_int_int, isi_int_bl, isi_int_str, isi_int_non, isi_bool_lst, isi_bool_tup, isi_bool_int, isi_bool_bl, isi_bool_str, isi_bool_non, isi_str_lst, isi_str_tup, isi_str_int, isi_str_bl, isi_str_str, isi_str_non, isi_list_lst, isi_list_tup, isi_list_int, isi_list_bl, isi_list_str, isi_list_non, isi_tuple_lst, isi_tuple_tup, isi_tuple_int, isi_tuple_bl, isi_tuple_str, isi_tuple_non, is_lst, isnot_lst, is_tup, isnot_tup, is_int, isnot_int, is_bl, isnot_bl, is_str, isnot_str, is_non, isnot_non, setAt_ints, aug_add, aug_sub, ints'_get, ite_ok, ite_bl])
local macro_rules | `(tactic| walk_at "sxs") => `(tactic| simp (disch := omega) only [*, evE_int, evE_bl, evE_non, evE_str, evE_var, evE_gl, evE_im, evE_bin, evE_neg, evE_not, evE_cmp, evE_chain, evE_and, evE_or, evE_ite, evE_tup, evE_lst, evE_idx, evE_slc, evE_ind, lstT_lst, evE_rev, evE_call, evE_bi, evE_isi, evEs_nil, evEs_cons, evI_of, evI_rng1, evI_rng2, evI_enum, evI_zip, exec_set, exec_setp, exec_par, exec_seti, exec_aug, exec_app, exec_ife, exec_ret, exec_retn, exec_brk, exec_cnt, exec_pass, exec_expr, evC_def, tstT, parT, R.ok_bind, R.ok_out, R.ok_nox, wp_nx, wp_rt, wp_bk, wp_ct, wp_nil, wp_cons, later_nx, later_rt, later_bk, later_ct, later_n, later_r, later_r', later_b', later_c', List.getElem?_cons_zero, List.getElem?_cons_succ, Option.getD_some, Option.getD_none, ofO_some, List.set_cons_zero, List.set_cons_succ, bin_add, bin_sub, mul_r, mul_l, bin_fdiv, bin_mod, pow_18, cmp_eq, cmp_ne, cmp_lt, cmp_le, cmp_gt, cmp_ge, tru_bl, tru_int, neg_int, int_int, int_bl, abs_int, len_lst, len_tup, len_scr, max_int, min_int, gcd_int, list_lst, list_tup, tuple_lst, sum_ints, idx_ints, idx_scr, idx_3, idx_2, rng_1, rng_2, itemsT, bindP_var, bindP_tup, bindPs_nil, bindPs_cons, divmod_int, lsz_le, lsz_0, lsz_1, lsz_2, lsz_3, lsz_4, lsz_5, lsz_6, lsz_7, lsz_8, if_lt_SZ, if_le_SZ, ints'_snoc, List.length_append, ints'_length, List.length_nil, List.length_cons, Nat.reduceAdd, Bool.false_eq_true, if_true, if_false, reduceIte, intO, ne_eq, not_true_eq_false, not_false_eq_true, decide_true, decide_false, Bool.not_true, Bool.not_false, isi_int_lst, isi_int_tup, isi_int_int, isi_int_bl, isi_int_str, isi_int_non, isi_bool_lst, isi_bool_tup, isi_bool_int, isi_bool_bl, isi_bool_str, isi_bool_non, isi_str_lst, isi_str_tup, isi_str_int, isi_str_bl, isi_str_str, isi_str_non, isi_list_lst, isi_list_tup, isi_list_int, isi_list_bl, isi_list_str, isi_list_non, isi_tuple_lst, isi_tuple_tup, isi_tuple_int, isi_tuple_bl, isi_tuple_str, isi_tuple_non, is_lst, isnot_lst, is_tup, isnot_tup, is_int, isnot_int, is_bl, isnot_bl, is_str, isnot_str, is_non, isnot_non, setAt_ints, aug_add, aug_sub, ints'_get, ite_ok, ite_bl])
theorem okB_rows {l : List (List Int)} (h : l.length ≤ 16777216) (hr : ∀ r ∈ l, r.length ≤ 10) : okB 2 (.lst (l.map rowT)) = true := okB_lst.mpr ⟨by rw [List.length_map]; exact h, okBs_of fun t ht => by
  obtain ⟨r, hr', rfl⟩ := List.mem_map.mp ht
  refine okB_tup.mpr ⟨by rw [ints'_length]; have := hr r hr'; omega, okBs_of fun t ht => ?_⟩
  unfold ints' at ht
  obtain ⟨i, _, rfl⟩ := List.mem_map.mp ht
  rfl⟩
theorem okB_sh60 {t : Tr} (h : okB 2 t = true) : sh t = true := shB_mono t (by omega) (okB_sh t h)
theorem ints_eqv : ∀ (a b : List Int), eqvs (ints' a) (ints' b) = decide (a = b)
  | [], [] => rfl
  | [], b :: bs => rfl
  | a :: as, [] => rfl
  | a :: as, b :: bs => by
    show (a == b && eqvs (ints' as) (ints' bs)) = _
    rw [ints_eqv as bs]
    by_cases h1 : a = b
    · by_cases h2 : as = bs
      · simp [h1, h2]
      · simp [h1, h2]
    · simp [h1]
theorem row_eqv (a b : List Int) : eqv (rowT a) (rowT b) = decide (a = b) := ints_eqv a b
theorem rows_eqv : ∀ (a b : List (List Int)), eqvs (a.map rowT) (b.map rowT) = decide (a = b)
  | [], [] => rfl
  | [], b :: bs => rfl
  | a :: as, [] => rfl
  | a :: as, b :: bs => by
    show (eqv (rowT a) (rowT b) && eqvs (as.map rowT) (bs.map rowT)) = _
    rw [rows_eqv as bs, row_eqv]
    by_cases h1 : a = b
    · by_cases h2 : as = bs
      · simp [h1, h2]
      · simp [h1, h2]
    · simp [h1]
theorem okB_rows_sh {l : List (List Int)} (h : l.length ≤ 16777216) (hr : ∀ r ∈ l, r.length ≤ 10) : sh (.lst (l.map rowT)) = true := okB_sh60 (okB_rows h hr)
theorem ints_sh (r : List Int) (n : Nat) : shBs n (ints' r) = true := by
  induction r with
  | nil => rfl
  | cons x r ih =>
    show (true && shBs n (ints' r)) = true
    rw [ih]
    rfl
theorem row_sh (r : List Int) : sh (rowT r) = true := ints_sh r 59
theorem inn_rows {a : List Int} {l : List (List Int)} (h : l.length ≤ 16777216) (hr : ∀ r ∈ l, r.length ≤ 10) : cmpT .inn (rowT a) (.lst (l.map rowT)) = .ok (decide (a ∈ l)) := by
  show (if sh (rowT a) && sh (.lst (l.map rowT)) then R.ok ((l.map rowT).any fun z => eqv z (rowT a)) else .no) = _
  rw [row_sh, okB_rows_sh h hr, Bool.and_self, if_pos rfl]
  congr 1
  rw [List.any_map, Bool.eq_iff_iff, List.any_eq_true, decide_eq_true_iff]
  constructor
  · rintro ⟨r, h1, h2⟩
    have h2 : eqv (rowT r) (rowT a) = true := h2
    rw [row_eqv, decide_eq_true_iff] at h2
    exact h2 ▸ h1
  · intro h1
    refine ⟨a, h1, ?_⟩
    show eqv (rowT a) (rowT a) = true
    rw [row_eqv, decide_eq_true_iff]
theorem ne_rows {a b : List (List Int)} (h : a.length ≤ 16777216) (hr : ∀ r ∈ a, r.length ≤ 10) (h' : b.length ≤ 16777216) (hr' : ∀ r ∈ b, r.length ≤ 10) : cmpT .ne (.lst (a.map rowT)) (.lst (b.map rowT)) = .ok (!decide (a = b)) := by
  show (if sh (.lst (a.map rowT)) && sh (.lst (b.map rowT)) then R.ok (eqvs (a.map rowT) (b.map rowT)) else .no).bind (fun r => R.ok (!r)) = _
  rw [okB_rows_sh h hr, okB_rows_sh h' hr', Bool.and_self, if_pos rfl, rows_eqv]
  rfl
def rowOf : Tr → List Int
  | .tup ts => (intsO ts).getD []
  | _ => []
theorem rowOf_row {r : List Int} : rowOf (rowT r) = r := by
  show (intsO (ints' r)).getD [] = r
  rw [intsO_ints]
  rfl
def F_yes : Fn where
  name := "yes_count"
  np := 2
  N := ["votes", "question", "vote"]
  body := .cons (.ret (.bi .sum (.cons (.comp (.var 2) (.of (.var 0)) (.nil) (.idx (.var 2) (.var 1))) (.nil)))) .nil
  fr := true
def F_most_on (fy : Nat) : Fn where
  name := "most_on"
  np := 2
  N := ["votes", "question"]
  body := .cons (.ret (.ite (.cmp .gt (.bin .mul (.int 2) (.call fy (.cons (.var 0) (.cons (.var 1) (.nil))))) (.bi .len (.cons (.var 0) (.nil)))) (.int 1) (.int 0))) .nil
  fr := true
def F_most_say (fo : Nat) : Fn where
  name := "most_say"
  np := 1
  N := ["votes", "question"]
  body := .cons (.ret (.bi .tuple (.cons (.comp (.var 1) (.rng1 (.bi .len (.cons (.idx (.var 0) (.int 0)) (.nil)))) (.nil) (.call fo (.cons (.var 0) (.cons (.var 1) (.nil))))) (.nil)))) .nil
  fr := true
def F_votes : Fn where
  name := "_law_votes"
  np := 3
  N := ["case", "draws", "count", "rows", "k"]
  body := .cons (.set 3 (.idx (.var 0) (.int 1))) (
    .cons (.ret (.comp (.var 4) (.rng1 (.var 2)) (.nil) (.idx (.var 3) (.bin .mod (.idx (.var 1) (.var 4)) (.bi .len (.cons (.var 3) (.nil))))))) .nil)
  fr := true
def F_law_most : Fn where
  name := "_law_most"
  np := 1
  N := ["votes", "found", "k", "vote"]
  body := .cons (.set 1 (.lst (.nil))) (
    .cons (.for [1, 3] (.var 2) (.rng1 (.bi .len (.cons (.idx (.var 0) (.int 0)) (.nil)))) (.cons (.app 1 (.bi .int (.cons (.cmp .gt (.bin .mul (.int 2) (.bi .sum (.cons (.comp (.var 3) (.of (.var 0)) (.nil) (.idx (.var 3) (.var 2))) (.nil)))) (.bi .len (.cons (.var 0) (.nil)))) (.nil)))) .nil)) (
    .cons (.ret (.bi .tuple (.cons (.var 1) (.nil)))) .nil))
  fr := true
section
variable {fs : List Fn} {gl : List Tr} {fuel k f fy fo : Nat}
def yes (vs : List (List Int)) (q : Nat) : Int := (vs.map fun v => v.getD q 0).sum
theorem yes_ok (hf : fs[f]? = some F_yes) {m q : Nat} {vs : List (List Int)} (hv : ∀ v ∈ vs, v.length = m) (hq : q < m) (hl : vs.length ≤ 1000) : runF fs gl fuel (k + 1) f [.lst (vs.map rowT), .int q] = .ok (.int (yes vs q)) := by
  refine run_eq (d := F_yes) hf rfl ?_
  show wp _ (execs _ _ [some (.lst (vs.map rowT)), some (.int q), none])
  simp only [F_yes]
  walk_at "sx"
  rw [comp_lst (xs := vs.map rowT) (fun t => Tr.int ((rowOf t).getD q 0)) (by walk_at "sx") (by rw [List.length_map]; omega) fun x hx => ?_]
  rotate_left
  · obtain ⟨v, hv', rfl⟩ := List.mem_map.mp hx
    have c1 := idx_row (r := v) (i := (q : Int)) (by omega) (by rw [hv v hv']; omega)
    walk_at "sx"
    simp only [c1, rowOf_row, Int.toNat_natCast]
  have e : (vs.map rowT).map (fun t => Tr.int ((rowOf t).getD q 0)) = ints' (vs.map fun v => v.getD q 0) := by
    unfold ints'
    rw [List.map_map, List.map_map]
    refine List.map_congr_left fun v _ => ?_
    show Tr.int ((rowOf (rowT v)).getD q 0) = _
    rw [rowOf_row]
    rfl
  rw [e]
  walk_at "sx"
  rfl
def mo (vs : List (List Int)) (q : Nat) : Int := if (vs.length : Int) < 2 * yes vs q then 1 else 0
theorem most_on_ok (hf : fs[f]? = some (F_most_on fy)) (hy : fs[fy]? = some F_yes) {m q : Nat} {vs : List (List Int)} (hv : ∀ v ∈ vs, v.length = m) (hq : q < m) (hl : vs.length ≤ 1000) : runF fs gl fuel (k + 2) f [.lst (vs.map rowT), .int q] = .ok (.int (mo vs q)) := by
  refine run_eq (d := F_most_on fy) hf rfl ?_
  show wp _ (execs _ _ [some (.lst (vs.map rowT)), some (.int q)])
  simp only [F_most_on]
  have h1 := yes_ok (gl := gl) (fuel := fuel) (k := k) hy hv hq hl
  walk_at "sx"
  simp only [h1]
  walk_at "sx"
  unfold mo
  rw [List.length_map]
  by_cases h : (vs.length : Int) < 2 * yes vs q
  · rw [if_pos (decide_eq_true h), if_pos h]
  · rw [if_neg (by simp [h]), if_neg h]
/-- what the most say -/
def maj (m : Nat) (vs : List (List Int)) : List Int := (List.range m).map (mo vs)
theorem maj_row (m : Nat) (vs : List (List Int)) : IsRow m (maj m vs) := by
  refine ⟨by rw [maj, List.length_map, List.length_range], fun x hx => ?_⟩
  obtain ⟨q, _, rfl⟩ := List.mem_map.mp hx
  unfold mo
  split
  · exact .inr rfl
  · exact .inl rfl
theorem maj_get {m : Nat} {vs : List (List Int)} {q : Nat} (hq : q < m) : (maj m vs).getD q 0 = mo vs q := by
  rw [maj, List.getD_eq_getElem?_getD, List.getElem?_map, List.getElem?_range hq]
  rfl
theorem most_say_ok (hf : fs[f]? = some (F_most_say fo)) (ho : fs[fo]? = some (F_most_on fy)) (hy : fs[fy]? = some F_yes) {m : Nat} {vs : List (List Int)} (hv : ∀ v ∈ vs, v.length = m) (hm : m ≤ 10) (hne : 0 < vs.length) (hl : vs.length ≤ 1000) : runF fs gl fuel (k + 3) f [.lst (vs.map rowT)] = .ok (rowT ((List.range m).map (mo vs))) := by
  refine run_eq (d := F_most_say fo) hf rfl ?_
  show wp _ (execs _ _ [some (.lst (vs.map rowT)), none])
  simp only [F_most_say]
  obtain ⟨v, hv0⟩ : ∃ v, v = vs[0] := ⟨_, rfl⟩
  have hvl : v.length = m := by rw [hv0]; exact hv _ (List.getElem_mem hne)
  have hi : idxT (.lst (vs.map rowT)) (.int 0) = .ok (rowT v) := by
    rw [idx_lst (by omega) (by rw [List.length_map]; omega)]
    congr 1
    refine get_of _ ?_
    rw [List.getElem?_map, show (0 : Int).toNat = 0 from rfl, List.getElem?_eq_getElem hne, hv0]
    rfl
  have hlen : biT .len [rowT v] = .ok (.int m) := by
    show R.ok (Tr.int (ints' v).length) = _
    rw [ints'_length, hvl]
  walk_at "sx"
  rw [comp_rng (a := 0) (b := (m : Int)) fun q : Nat => mo vs q]
  rotate_left
  · walk_at "sx"
    simp only [hi, R.ok_bind, hlen]
    walk_at "sx"
  · omega
  · intro q hq
    have h1 := most_on_ok (gl := gl) (fuel := fuel) (k := k) (q := q) ho hy hv (by omega) hl
    have e : (0 + (q : Int)) = (q : Int) := by omega
    rw [e]
    walk_at "sx"
    exact h1
  walk_at "sx"
  show Tr.tup (ints' ((List.range ((m : Int) - 0).toNat).map fun q => mo vs q)) = _
  rw [show ((m : Int) - 0).toNat = m by omega]
  rfl
theorem votes_ok (hf : fs[f]? = some F_votes) {M n B : Int} {rs : List (List Int)} {T : Tr} {d : Int → Int} (hT : ∀ i : Int, 0 ≤ i → i < B → idxT T (.int i) = .ok (.int (d i))) (hne : 0 < rs.length) (h0 : 0 ≤ n) (h1 : n ≤ B) (hB : B ≤ 1000) :
    ∃ vs : List (List Int), vs.length = n.toNat ∧ (∀ v ∈ vs, v ∈ rs) ∧ runF fs gl fuel (k + 1) f [.tup [.int M, .lst (rs.map rowT)], T, .int n] = .ok (.lst (vs.map rowT)) := by
  have hin : ∀ j : Int, 0 ≤ d j % (rs.length : Int) ∧ (d j % (rs.length : Int)).toNat < rs.length := fun j => by
    have e1 := Int.emod_nonneg (d j) (show (rs.length : Int) ≠ 0 by omega)
    have e2 := Int.emod_lt_of_pos (d j) (show 0 < (rs.length : Int) by omega)
    omega
  refine ⟨(List.range (n - 0).toNat).map fun j : Nat => rs.getD (d (0 + (j : Int)) % (rs.length : Int)).toNat [], ?_, fun v hv => ?_, ?_⟩
  · rw [List.length_map, List.length_range, Int.sub_zero]
  · obtain ⟨j, _, rfl⟩ := List.mem_map.mp hv
    rw [List.getD_eq_getElem?_getD, List.getElem?_eq_getElem (hin _).2]
    exact List.getElem_mem _
  · refine run_eq (d := F_votes) hf rfl ?_
    show wp _ (execs _ _ [some (.tup [.int M, .lst (rs.map rowT)]), some T, some (.int n), none, none])
    simp only [F_votes]
    have hi : idxT (.tup [.int M, .lst (rs.map rowT)]) (.int 1) = .ok (.lst (rs.map rowT)) := rfl
    walk_at "sx"
    simp only [hi]
    walk_at "sx"
    rw [comp_lst (xs := rngL 0 n) (fun t => match t with
      | .int j => rowT (rs.getD (d j % (rs.length : Int)).toNat [])
      | _ => .non) (by walk_at "sx") (by rw [rngL_length]; omega) fun x hx => ?_]
    · walk_at "sx"
      congr 1
      unfold rngL
      rw [List.map_map, List.map_map]
      rfl
    · obtain ⟨j, hj, rfl⟩ : ∃ j : Int, (0 ≤ j ∧ j < n) ∧ x = .int j := by
        unfold rngL at hx
        obtain ⟨j, hj, e⟩ := List.mem_map.mp hx
        exact ⟨0 + (j : Int), by have := List.mem_range.mp hj; omega, e.symm⟩
      have c0 := hT j hj.1 (by omega)
      have c1 : binT .mod (.int (d j)) (.int rs.length) = .ok (.int (d j % (rs.length : Int))) := bin_mod (by omega)
      have c2 : idxT (.lst (rs.map rowT)) (.int (d j % (rs.length : Int))) = .ok (rowT (rs.getD (d j % (rs.length : Int)).toNat [])) := by
        rw [idx_lst (hin j).1 (by rw [List.length_map]; have := (hin j).2; omega)]
        congr 1
        refine get_of _ ?_
        rw [List.getElem?_map, List.getElem?_eq_getElem (hin j).2, List.getD_eq_getElem?_getD, List.getElem?_eq_getElem (hin j).2]
        rfl
      walk_at "sx"
      simp only [c0, R.ok_bind, List.length_map, c1, c2]
theorem law_most_ok (hf : fs[f]? = some F_law_most) {m : Nat} {vs : List (List Int)} (hv : ∀ v ∈ vs, v.length = m) (hm : m ≤ 10) (hne : 0 < vs.length) (hl : vs.length ≤ 1000) : runF fs gl fuel (k + 1) f [.lst (vs.map rowT)] = .ok (rowT (maj m vs)) := by
  refine run_eq (d := F_law_most) hf rfl ?_
  show wp _ (execs _ _ [some (.lst (vs.map rowT)), none, none, none])
  simp only [F_law_most]
  obtain ⟨v, hv0⟩ : ∃ v, v = vs[0] := ⟨_, rfl⟩
  have hvl : v.length = m := by rw [hv0]; exact hv _ (List.getElem_mem hne)
  have hi : idxT (.lst (vs.map rowT)) (.int 0) = .ok (rowT v) := by
    rw [idx_lst (by omega) (by rw [List.length_map]; omega)]
    congr 1
    refine get_of _ ?_
    rw [List.getElem?_map, show (0 : Int).toNat = 0 from rfl, List.getElem?_eq_getElem hne, hv0]
    rfl
  have hlen : biT .len [rowT v] = .ok (.int m) := by
    show R.ok (Tr.int (ints' v).length) = _
    rw [ints'_length, hvl]
  walk_at "sx"
  refine wp_for (xs := rngL 0 m) (by walk_at "sx"; simp only [hi, R.ok_bind, hlen]; walk_at "sx") (fun i ρ => ∃ u, ρ = [some (.lst (vs.map rowT)), some (.lst (ints' (maj i vs))), u, none]) ⟨_, rfl⟩ (fun i hi ρ hI => ?_) fun ρ hI => ?_
  · obtain ⟨u, rfl⟩ := hI
    rw [rngL_length] at hi
    simp only [rngL_get]
    walk_at "sx"
    rw [comp_m (xs := vs) rowT (fun v => [some (.lst (vs.map rowT)), some (.lst (ints' (maj i vs))), some (.int (0 + i)), some (rowT v)]) (fun v => .int (v.getD i 0)) (by walk_at "sx") (by omega) (fun v _ => rfl) (fun v hv' => by
      have c1 := idx_row (r := v) (i := (i : Int)) (by omega) (by rw [hv v hv']; omega)
      rw [Int.toNat_natCast] at c1
      have e : (0 + (i : Int)) = i := by omega
      walk_at "sx"
      simp only [e, c1])]
    have e : vs.map (fun v => Tr.int (v.getD i 0)) = ints' (vs.map fun v => v.getD i 0) := by
      unfold ints'
      rw [List.map_map]
      rfl
    have hml : (maj i vs).length = i := by rw [maj, List.length_map, List.length_range]
    rw [e]
    walk_at "sx"
    have ey : (vs.map fun v => v.getD i 0).sum = yes vs i := rfl
    rw [List.length_map, ey]
    have e2 : (if decide ((vs.length : Int) < 2 * yes vs i) = true then (1 : Int) else 0) = mo vs i := by
      unfold mo
      by_cases h : (vs.length : Int) < 2 * yes vs i
      · rw [if_pos (decide_eq_true h), if_pos h]
      · rw [if_neg (by simp [h]), if_neg h]
    have e3 : maj (i + 1) vs = maj i vs ++ [mo vs i] := by
      unfold maj
      rw [List.range_succ, List.map_append]
      rfl
    rw [e3, e2]
    exact ⟨_, rfl⟩
  · obtain ⟨u, rfl⟩ := hI
    rw [rngL_length, show ((m : Int) - 0).toNat = m by omega]
    walk_at "sx"
    rfl
end
end Jr.P

/-! Plain: ends with exceptions; trees of any kind. -/
namespace Jr.P
open PySem Jr
/-! ### how it ends, exceptions too -/
def wqD (P : Post) (X : Str → Prop) (o : O) : Prop := match o with
  | .nx ρ => P.n ρ
  | .rt t => P.r t
  | .bk ρ => P.b ρ
  | .ct ρ => P.c ρ
  | .ex c _ => X c
  | .no => False
structure wq (P : Post) (X : Str → Prop) (o : O) : Prop where
  run : wqD P X o
section
variable {n b c : Env → Prop} {r : Tr → Prop} {ρ : Env} {t : Tr} {X : Str → Prop}
theorem wq_nx : wq ⟨n, r, b, c⟩ X (.nx ρ) = n ρ := propext ⟨fun h => h.1, fun h => ⟨h⟩⟩
theorem wq_rt : wq ⟨n, r, b, c⟩ X (.rt t) = r t := propext ⟨fun h => h.1, fun h => ⟨h⟩⟩
theorem wq_bk : wq ⟨n, r, b, c⟩ X (.bk ρ) = b ρ := propext ⟨fun h => h.1, fun h => ⟨h⟩⟩
theorem wq_ct : wq ⟨n, r, b, c⟩ X (.ct ρ) = c ρ := propext ⟨fun h => h.1, fun h => ⟨h⟩⟩
theorem wq_ex {P : Post} {x : Str} : wq P X (.ex x ρ) = X x := propext ⟨fun h => h.1, fun h => ⟨h⟩⟩
end
theorem wq_nil {P : Post} {X : Str → Prop} {c : Ctx} {ρ : Env} : wq P X (execs c .nil ρ) = wq P X (.nx ρ) := no_rfl rfl
def laterq (P : Post) (X : Str → Prop) (c : Ctx) (r : Sts) : Post := ⟨fun ρ' => wq P X (execs c r ρ'), P.r, P.b, P.c⟩
section
variable {P : Post} {X : Str → Prop} {c : Ctx} {r : Sts} {ρ : Env} {t : Tr}
theorem laterq_nx : wq (laterq P X c r) X (.nx ρ) = wq P X (execs c r ρ) := propext ⟨fun h => h.1, fun h => ⟨h⟩⟩
theorem laterq_rt : wq (laterq P X c r) X (.rt t) = wq P X (.rt t) := propext ⟨fun h => ⟨h.1⟩, fun h => ⟨h.1⟩⟩
theorem laterq_bk : wq (laterq P X c r) X (.bk ρ) = wq P X (.bk ρ) := propext ⟨fun h => ⟨h.1⟩, fun h => ⟨h.1⟩⟩
theorem laterq_ct : wq (laterq P X c r) X (.ct ρ) = wq P X (.ct ρ) := propext ⟨fun h => ⟨h.1⟩, fun h => ⟨h.1⟩⟩
theorem laterq_n : (laterq P X c r).n ρ = wq P X (execs c r ρ) := no_rfl rfl
theorem laterq_r : (laterq P X c r).r = P.r := no_rfl rfl
theorem laterq_b : (laterq P X c r).b = P.b := no_rfl rfl
theorem laterq_c : (laterq P X c r).c = P.c := no_rfl rfl
theorem wq_cons {s : St} : wq P X (execs c (.cons s r) ρ) = wq (laterq P X c r) X (exec c s ρ) := by
  have h : wqD P X (execs c (.cons s r) ρ) = wqD (laterq P X c r) X (exec c s ρ) := by
    rw [execs_cons]
    generalize exec c s ρ = o
    cases o with
    | nx ρ' => exact propext ⟨fun h => ⟨h⟩, fun h => h.1⟩
    | _ => rfl
  exact propext ⟨fun q => ⟨h ▸ q.1⟩, fun q => ⟨h ▸ q.1⟩⟩
theorem wq_mono {P' : Post} {o : O} (h : wq P X o) (hn : ∀ ρ, P.n ρ → P'.n ρ) (hr : ∀ t, P.r t → P'.r t) (hb : ∀ ρ, P.b ρ → P'.b ρ) (hc : ∀ ρ, P.c ρ → P'.c ρ) : wq P' X o := by
  refine ⟨?_⟩
  have h := h.1
  cases o with
  | nx ρ => exact hn ρ h
  | rt t => exact hr t h
  | bk ρ => exact hb ρ h
  | ct ρ => exact hc ρ h
  | ex c ρ => exact h
  | no => exact h
theorem wq_of {o : O} (h : wp P o) : wq P X o := by
  refine ⟨?_⟩
  have h := h.1
  cases o <;> first | exact h | exact h.elim
theorem wq_ite {b : Bool} {o o' : O} (h1 : b = true → wq P X o) (h2 : b = false → wq P X o') : wq P X (if b = true then o else o') := by
  cases b with
  | true => exact h1 rfl
  | false => exact h2 rfl
theorem wq_cutL {o : O} (M : Env → Prop) (h1 : wq ⟨M, P.r, P.b, P.c⟩ X o) (h2 : ∀ ρ', M ρ' → wq P X (execs c r ρ')) : wq (laterq P X c r) X o :=
  wq_mono h1 h2 (fun _ h => h) (fun _ h => h) fun _ h => h
theorem wqD_forL {f : Tr → Env → O} {xs : List Tr} (I : Nat → Env → Prop) (h0 : I 0 ρ) (hs : ∀ i (h : i < xs.length) ρ, I i ρ → wqD ⟨I (i + 1), P.r, P.n, I (i + 1)⟩ X (f xs[i] ρ)) (hn : ∀ ρ, I xs.length ρ → P.n ρ) : wqD P X (forL f xs ρ) := by
  induction xs generalizing I ρ with
  | nil => exact hn ρ h0
  | cons x xs ih =>
    have step : ∀ ρ', I 1 ρ' → wqD P X (forL f xs ρ') := fun ρ' h1 => ih (fun i => I (i + 1)) h1 (fun i hi ρ2 h2 => hs (i + 1) (Nat.succ_lt_succ hi) ρ2 h2) hn
    have h : wqD ⟨I 1, P.r, P.n, I 1⟩ X (f x ρ) := hs 0 (Nat.zero_lt_succ _) ρ h0
    rw [forL]
    generalize f x ρ = o at h
    cases o with
    | nx ρ' => exact step ρ' h
    | ct ρ' => exact step ρ' h
    | _ => exact h
theorem wq_for {fl : List Nat} {p : Pat} {it : It} {b : Sts} {xs : List Tr} (hx : evI c it ρ = .ok xs) (I : Nat → Env → Prop) (h0 : I 0 ρ)
    (hs : ∀ i (h : i < xs.length) ρ, I i ρ → wq ⟨I (i + 1), P.r, P.n, I (i + 1)⟩ X ((bindP p xs[i] ρ).out ρ fun ρ2 => execs c b ρ2)) (hn : ∀ ρ, I xs.length ρ → wq P X (.nx ρ)) : wq P X (exec c (.for fl p it b) ρ) := by
  rw [exec_for, hx]
  exact ⟨wqD_forL I h0 (fun i h ρ q => (hs i h ρ q).1) fun ρ q => (hn ρ q).1⟩
end
/-- a call, by any wish of its end -/
theorem run_q {fs : List Fn} {gl : List Tr} {fuel k f : Nat} {d : Fn} {ts : List Tr} (Q : R Tr → Prop) (hd : fs[f]? = some d) (hn : ts.length = d.np)
    (h : wq ⟨fun _ => Q (.ok .non), fun t => Q (.ok t), fun _ => False, fun _ => False⟩ (fun x => Q (.ex x)) (execs ⟨runF fs gl fuel k, gl, fuel⟩ d.body (startE d.N.length ts))) : Q (runF fs gl fuel (k + 1) f ts) := by
  rw [runF, hd]
  show Q (if ts.length = d.np then _ else _)
  rw [if_pos hn]
  have h := h.1
  generalize execs ⟨runF fs gl fuel k, gl, fuel⟩ d.body (startE d.N.length ts) = o at h
  cases o with
  | nx ρ => exact h
  | rt t => exact h
  | bk ρ => exact h.elim
  | ct ρ => exact h.elim
  | ex c ρ => exact h
  | no => exact h.elim
theorem caught_ex {hs : List Hd} {tbl : List (Str × Option Tr)} {x : Str} {ρ : Env} {t : Tr} (hn : nmOk hs ρ = true) (h : tbl.lookup x = some (some t)) : caughtO hs tbl (.ex x ρ) = .rt t := by
  show (if nmOk hs ρ = true then _ else _) = _
  rw [if_pos hn, h]
theorem caught_rt {hs : List Hd} {tbl : List (Str × Option Tr)} {t : Tr} : caughtO hs tbl (.rt t) = .rt t := no_rfl rfl
theorem caught_nx {hs : List Hd} {tbl : List (Str × Option Tr)} {ρ : Env} : caughtO hs tbl (.nx ρ) = .nx ρ := no_rfl rfl
/-! ### trees of any kind -/
/-- no script -/
def nscT : Tr → Bool
  | .scr _ => false
  | _ => true
def wholeT : Tr → Bool
  | .int _ => true
  | _ => false
def numT : Tr → Int
  | .int i => i
  | _ => 0
def withT (t : Tr) (a b : Int) : Bool := wholeT t && (decide (a ≤ numT t) && decide (numT t ≤ b))
section
variable {fs : List Fn} {gl : List Tr} {fuel k f fw : Nat}
local macro_rules | `(tactic| walk_at "sx") => `(tactic| simp (disch := omega) only [evE_int, evE_bl, evE_non, evE_str, evE_var, evE_gl, evE_im, evE_bin, evE_neg, evE_not, evE_cmp, evE_chain, evE_and, evE_or, evE_ite, evE_tup, evE_lst, evE_idx, evE_slc, evE_ind, lstT_lst, evE_rev, evE_call, evE_bi, evE_isi, evEs_nil, evEs_cons, evI_of, evI_rng1, evI_rng2, evI_enum, evI_zip, exec_set, exec_setp, exec_par, exec_seti, exec_aug, exec_app, exec_ife, exec_ret, exec_retn, exec_brk, exec_cnt, exec_pass, exec_expr, evC_def, tstT, parT, R.ok_bind, R.ok_out, R.ok_nox, wp_nx, wp_rt, wp_bk, wp_ct, wp_nil, wp_cons, later_nx, later_rt, later_bk, later_ct, later_n, later_r, later_r', later_b', later_c', List.getElem?_cons_zero, List.getElem?_cons_succ, Option.getD_some, Option.getD_none, ofO_some, List.set_cons_zero, List.set_cons_succ, bin_add, bin_sub, mul_r, mul_l, bin_fdiv, bin_mod, pow_18, cmp_eq, cmp_ne, cmp_lt, cmp_le, cmp_gt, cmp_ge, tru_bl, tru_int, neg_int, int_int, int_bl, abs_int, len_lst, len_tup, len_scr, max_int, min_int, gcd_int, list_lst, list_tup, tuple_lst, sum_ints, idx_ints, idx_scr, idx_3, idx_2, rng_1, rng_2, itemsT, bindP_var, bindP_tup, bindP_lst, bindPs_nil, bindPs_cons, divmod_int, lsz_le, lsz_0, lsz_1, lsz_2, lsz_3, lsz_4, lsz_5, lsz_6, lsz_7, lsz_8, if_lt_SZ, if_le_SZ, ints'_snoc, List.length_append, ints'_length, List.length_nil, List.length_cons, Nat.reduceAdd, Bool.false_eq_true, if_true, if_false, reduceIte, intO, ne_eq, not_true_eq_false, not_false_eq_true, decide_true, decide_false, Bool.not_true, Bool.not_false, isi_int_lst, isi_int_tup, isi_int_int, isi_int_bl, isi_int_str, isi_int_non, isi_bool_lst, isi_bool_tup, isi_bool_int, isi_bool_bl, isi_bool_str, isi_bool_non, isi_str_lst, isi_str_tup, isi_str_int, isi_str_bl, isi_str_str, isi_str_non, isi_list_lst, isi_list_tup, isi_list_int, isi_list_bl, isi_list_str, isi_list_non, isi_tuple_lst, isi_tuple_tup, isi_tuple_int, isi_tuple_bl, isi_tuple_str, isi_tuple_non, is_lst, isnot_lst, is_tup, isnot_tup, is_int, isnot_int, is_bl, isnot_bl, is_str, isnot_str, is_non, isnot_non, setAt_ints, aug_add, aug_sub, ints'_get, ite_ok, ite_bl, exec_rai, exec_trx, wq_nx, wq_rt, wq_bk, wq_ct, wq_ex, wq_nil, wq_cons, laterq_nx, laterq_rt, laterq_bk, laterq_ct, laterq_n, laterq_r, laterq_b, laterq_c, caught_rt, caught_nx, idx_p0, idx_p1, R.ex_out, R.ex_bind])
local macro_rules | `(tactic| walk_at "sxs") => `(tactic| simp (disch := omega) only [*, evE_int, evE_bl, evE_non, evE_str, evE_var, evE_gl, evE_im, evE_bin, evE_neg, evE_not, evE_cmp, evE_chain, evE_and, evE_or, evE_ite, evE_tup, evE_lst, evE_idx, evE_slc, evE_ind, lstT_lst, evE_rev, evE_call, evE_bi, evE_isi, evEs_nil, evEs_cons, evI_of, evI_rng1, evI_rng2, evI_enum, evI_zip, exec_set, exec_setp, exec_par, exec_seti, exec_aug, exec_app, exec_ife, exec_ret, exec_retn, exec_brk, exec_cnt, exec_pass, exec_expr, evC_def, tstT, parT, R.ok_bind, R.ok_out, R.ok_nox, wp_nx, wp_rt, wp_bk, wp_ct, wp_nil, wp_cons, later_nx, later_rt, later_bk, later_ct, later_n, later_r, later_r', later_b', later_c', List.getElem?_cons_zero, List.getElem?_cons_succ, Option.getD_some, Option.getD_none, ofO_some, List.set_cons_zero, List.set_cons_succ, bin_add, bin_sub, mul_r, mul_l, bin_fdiv, bin_mod, pow_18, cmp_eq, cmp_ne, cmp_lt, cmp_le, cmp_gt, cmp_ge, tru_bl, tru_int, neg_int, int_int, int_bl, abs_int, len_lst, len_tup, len_scr, max_int, min_int, gcd_int, list_lst, list_tup, tuple_lst, sum_ints, idx_ints, idx_scr, idx_3, idx_2, rng_1, rng_2, itemsT, bindP_var, bindP_tup, bindP_lst, bindPs_nil, bindPs_cons, divmod_int, lsz_le, lsz_0, lsz_1, lsz_2, lsz_3, lsz_4, lsz_5, lsz_6, lsz_7, lsz_8, if_lt_SZ, if_le_SZ, ints'_snoc, List.length_append, ints'_length, List.length_nil, List.length_cons, Nat.reduceAdd, Bool.false_eq_true, if_true, if_false, reduceIte, intO, ne_eq, not_true_eq_false, not_false_eq_true, decide_true, decide_false, Bool.not_true, Bool.not_false, isi_int_lst, isi_int_tup, isi_int_int, isi_int_bl, isi_int_str, isi_int_non, isi_bool_lst, isi_bool_tup, isi_bool_int, isi_bool_bl, isi_bool_str, isi_bool_non, isi_str_lst, isi_str_tup, isi_str_int, isi_str_bl, isi_str_str, isi_str_non, isi_list_lst, isi_list_tup, isi_list_int, isi_list_bl, isi_list_str, isi_list_non, isi_tuple_lst, isi_tuple_tup, isi_tuple_int, isi_tuple_bl, isi_tuple_str, isi_tuple_non, is_lst, isnot_lst, is_tup, isnot_tup, is_int, isnot_int, is_bl, isnot_bl, is_str, isnot_str, is_non, isnot_non, setAt_ints, aug_add, aug_sub, ints'_get, ite_ok, ite_bl, exec_rai, exec_trx, wq_nx, wq_rt, wq_bk, wq_ct, wq_ex, wq_nil, wq_cons, laterq_nx, laterq_rt, laterq_bk, laterq_ct, laterq_n, laterq_r, laterq_b, laterq_c, caught_rt, caught_nx, idx_p0, idx_p1, R.ex_out, R.ex_bind])
theorem whole_any (hf : fs[f]? = some F_whole) (t : Tr) (h : nscT t = true) : runF fs gl fuel (k + 1) f [t] = .ok (.bl (wholeT t)) := by
  refine run_eq hf rfl ?_
  show wp _ (execs _ _ [some t])
  simp only [F_whole]
  cases t with
  | scr ns => cases h
  | non => walk_at "sx"; rfl
  | bl b => walk_at "sx"; rfl
  | int i => walk_at "sx"; rfl
  | str s => walk_at "sx"; rfl
  | tup ts => walk_at "sx"; rfl
  | lst ts => walk_at "sx"; rfl
theorem within_any (hf : fs[f]? = some (F_within fw)) (hw : fs[fw]? = some F_whole) (t : Tr) (h : nscT t = true) (a b : Int) : runF fs gl fuel (k + 2) f [t, .int a, .int b] = .ok (.bl (withT t a b)) := by
  have q := whole_any (gl := gl) (fuel := fuel) (k := k) hw t h
  refine run_eq hf rfl ?_
  show wp _ (execs _ _ [some t, some (.int a), some (.int b)])
  simp only [F_within]
  walk_at "sx"
  simp only [q, R.ok_bind]
  walk_at "sx"
  cases t with
  | int i =>
    unfold withT wholeT numT
    walk_at "sx"
    by_cases h1 : a ≤ i
    · simp only [h1, decide_true, if_true, R.ok_out, later_rt, wp_rt, Bool.true_and]
    · simp only [h1, decide_false, Bool.false_eq_true, if_false, R.ok_out, later_rt, wp_rt, Bool.false_and, Bool.true_and]
  | _ =>
    unfold withT wholeT
    simp only [Bool.false_eq_true, if_false, R.ok_out, later_rt, wp_rt, Bool.false_and]
end
end Jr.P

/-! Plain: comprehensions over typed lists; rows among trees of any kind. -/
namespace Jr.P
open PySem Jr
/-- a comprehension, one name -/
theorem comp_v {α : Type} {c : Ctx} {v : Nat} {it : It} {b : Ex} {ρ : Env} {xs : List α} (e : α → Tr) (g : α → Tr) (hx : evI c it ρ = .ok (xs.map e)) (hz : xs.length ≤ 16777216)
    (h : ∀ x ∈ xs, evE c b ((ρ.set v none).set v (some (e x))) = .ok (g x)) : evE c (.comp (.var v) it .nil b) ρ = .ok (.lst (xs.map g)) :=
  comp_m e (fun x => (ρ.set v none).set v (some (e x))) g hx hz (fun _ _ => rfl) h
theorem comp_vf {α : Type} {c : Ctx} {v : Nat} {it : It} {d b : Ex} {ρ : Env} {xs : List α} (e : α → Tr) (q : α → Bool) (g : α → Tr) (hx : evI c it ρ = .ok (xs.map e)) (hz : xs.length ≤ 16777216)
    (hd : ∀ x ∈ xs, evC c d ((ρ.set v none).set v (some (e x))) = .ok (q x)) (h : ∀ x ∈ xs, q x = true → evE c b ((ρ.set v none).set v (some (e x))) = .ok (g x)) : evE c (.comp (.var v) it d b) ρ = .ok (.lst ((xs.filter q).map g)) :=
  comp_a e (fun x => (ρ.set v none).set v (some (e x))) q g hx hz (fun _ _ => rfl) hd h
/-- over trees as they are -/
theorem comp_i {c : Ctx} {v : Nat} {it : It} {b : Ex} {ρ : Env} {xs : List Tr} (g : Tr → Tr) (hx : evI c it ρ = .ok xs) (hz : xs.length ≤ 16777216)
    (h : ∀ x ∈ xs, evE c b ((ρ.set v none).set v (some x)) = .ok (g x)) : evE c (.comp (.var v) it .nil b) ρ = .ok (.lst (xs.map g)) :=
  comp_lst g hx hz h
theorem bls_map {α : Type} {xs : List α} {p : α → Bool} : (xs.map fun x => Tr.bl (p x)) = bls (xs.map p) := by
  unfold bls
  rw [List.map_map]
  rfl
theorem all_map {α : Type} {xs : List α} {p : α → Bool} : biT .all [.lst (xs.map fun x => Tr.bl (p x))] = .ok (.bl (xs.all p)) := by
  rw [bls_map, all_bls, List.all_map]
  rfl
theorem any_map {α : Type} {xs : List α} {p : α → Bool} : biT .any [.lst (xs.map fun x => Tr.bl (p x))] = .ok (.bl (xs.any p)) := by
  rw [bls_map, any_bls, List.any_map]
  rfl
/-! ### rows among trees -/
def isTupT : Tr → Bool
  | .tup _ => true
  | _ => false
def itemsOf : Tr → List Tr
  | .tup ts => ts
  | .lst ts => ts
  | _ => []
/-- no script, none as an item -/
def nsc1 (t : Tr) : Bool := nscT t && (itemsOf t).all nscT
/-- a tuple of so many answers -/
def isRowT (m : Int) (t : Tr) : Bool := isTupT t && (decide ((itemsOf t).length = m) && (itemsOf t).all fun x => withT x 0 1)
def F_is_row (fw : Nat) : Fn where
  name := "is_row"
  np := 2
  N := ["m", "row", "answer"]
  body := .cons (.ret (.and (.isi .tuple (.var 1)) (.and (.cmp .eq (.bi .len (.cons (.var 1) (.nil))) (.var 0)) (.bi .all (.cons (.comp (.var 2) (.of (.var 1)) (.nil) (.call fw (.cons (.var 2) (.cons (.int 0) (.cons (.int 1) (.nil)))))) (.nil)))))) .nil
  fr := true
def F_law_is_row : Fn where
  name := "_law_is_row"
  np := 2
  N := ["m", "row", "answer"]
  body := .cons (.ife (.or (.not (.isi .tuple (.var 1))) (.cmp .ne (.bi .len (.cons (.var 1) (.nil))) (.var 0))) (.cons (.ret (.bl false)) .nil) (.nil)) (
    .cons (.for [] (.var 2) (.of (.var 1)) (.cons (.ife (.or (.not (.isi .int (.var 2))) (.or (.isi .bool (.var 2)) (.or (.cmp .lt (.var 2) (.int 0)) (.cmp .gt (.var 2) (.int 1))))) (.cons (.ret (.bl false)) .nil) (.nil)) .nil)) (
    .cons (.ret (.bl true)) .nil))
  fr := true
section
variable {fs : List Fn} {gl : List Tr} {fuel k f fw fh : Nat}
local macro_rules | `(tactic| walk_at "sx") => `(tactic| simp (disch := omega) only [evE_int, evE_bl, evE_non, evE_str, evE_var, evE_gl, evE_im, evE_bin, evE_neg, evE_not, evE_cmp, evE_chain, evE_and, evE_or, evE_ite, evE_tup, evE_lst, evE_idx, evE_slc, evE_ind, lstT_lst, evE_rev, evE_call, evE_bi, evE_isi, evEs_nil, evEs_cons, evI_of, evI_rng1, evI_rng2, evI_enum, evI_zip, exec_set, exec_setp, exec_par, exec_seti, exec_aug, exec_app, exec_ife, exec_ret, exec_retn, exec_brk, exec_cnt, exec_pass, exec_expr, evC_def, tstT, parT, R.ok_bind, R.ok_out, R.ok_nox, wp_nx, wp_rt, wp_bk, wp_ct, wp_nil, wp_cons, later_nx, later_rt, later_bk, later_ct, later_n, later_r, later_r', later_b', later_c', List.getElem?_cons_zero, List.getElem?_cons_succ, Option.getD_some, Option.getD_none, ofO_some, List.set_cons_zero, List.set_cons_succ, bin_add, bin_sub, mul_r, mul_l, bin_fdiv, bin_mod, pow_18, cmp_eq, cmp_ne, cmp_lt, cmp_le, cmp_gt, cmp_ge, tru_bl, tru_int, neg_int, int_int, int_bl, abs_int, len_lst, len_tup, len_scr, max_int, min_int, gcd_int, list_lst, list_tup, tuple_lst, sum_ints, idx_ints, idx_scr, idx_3, idx_2, rng_1, rng_2, itemsT, bindP_var, bindP_tup, bindP_lst, bindPs_nil, bindPs_cons, divmod_int, lsz_le, lsz_0, lsz_1, lsz_2, lsz_3, lsz_4, lsz_5, lsz_6, lsz_7, lsz_8, if_lt_SZ, if_le_SZ, ints'_snoc, List.length_append, ints'_length, List.length_nil, List.length_cons, Nat.reduceAdd, Bool.false_eq_true, if_true, if_false, reduceIte, intO, ne_eq, not_true_eq_false, not_false_eq_true, decide_true, decide_false, Bool.not_true, Bool.not_false, isi_int_lst, isi_int_tup, isi_int_int, isi_int_bl, isi_int_str, isi_int_non, isi_bool_lst, isi_bool_tup, isi_bool_int, isi_bool_bl, isi_bool_str, isi_bool_non, isi_str_lst, isi_str_tup, isi_str_int, isi_str_bl, isi_str_str, isi_str_non, isi_list_lst, isi_list_tup, isi_list_int, isi_list_bl, isi_list_str, isi_list_non, isi_tuple_lst, isi_tuple_tup, isi_tuple_int, isi_tuple_bl, isi_tuple_str, isi_tuple_non, is_lst, isnot_lst, is_tup, isnot_tup, is_int, isnot_int, is_bl, isnot_bl, is_str, isnot_str, is_non, isnot_non, setAt_ints, aug_add, aug_sub, ints'_get, ite_ok, ite_bl, exec_rai, exec_trx, wq_nx, wq_rt, wq_bk, wq_ct, wq_ex, wq_nil, wq_cons, laterq_nx, laterq_rt, laterq_bk, laterq_ct, laterq_n, laterq_r, laterq_b, laterq_c, caught_rt, caught_nx, idx_p0, idx_p1, R.ex_out, R.ex_bind])
local macro_rules | `(tactic| walk_at "sxs") => `(tactic| simp (disch := omega) only [*, evE_int, evE_bl, evE_non, evE_str, evE_var, evE_gl, evE_im, evE_bin, evE_neg, evE_not, evE_cmp, evE_chain, evE_and, evE_or, evE_ite, evE_tup, evE_lst, evE_idx, evE_slc, evE_ind, lstT_lst, evE_rev, evE_call, evE_bi, evE_isi, evEs_nil, evEs_cons, evI_of, evI_rng1, evI_rng2, evI_enum, evI_zip, exec_set, exec_setp, exec_par, exec_seti, exec_aug, exec_app, exec_ife, exec_ret, exec_retn, exec_brk, exec_cnt, exec_pass, exec_expr, evC_def, tstT, parT, R.ok_bind, R.ok_out, R.ok_nox, wp_nx, wp_rt, wp_bk, wp_ct, wp_nil, wp_cons, later_nx, later_rt, later_bk, later_ct, later_n, later_r, later_r', later_b', later_c', List.getElem?_cons_zero, List.getElem?_cons_succ, Option.getD_some, Option.getD_none, ofO_some, List.set_cons_zero, List.set_cons_succ, bin_add, bin_sub, mul_r, mul_l, bin_fdiv, bin_mod, pow_18, cmp_eq, cmp_ne, cmp_lt, cmp_le, cmp_gt, cmp_ge, tru_bl, tru_int, neg_int, int_int, int_bl, abs_int, len_lst, len_tup, len_scr, max_int, min_int, gcd_int, list_lst, list_tup, tuple_lst, sum_ints, idx_ints, idx_scr, idx_3, idx_2, rng_1, rng_2, itemsT, bindP_var, bindP_tup, bindP_lst, bindPs_nil, bindPs_cons, divmod_int, lsz_le, lsz_0, lsz_1, lsz_2, lsz_3, lsz_4, lsz_5, lsz_6, lsz_7, lsz_8, if_lt_SZ, if_le_SZ, ints'_snoc, List.length_append, ints'_length, List.length_nil, List.length_cons, Nat.reduceAdd, Bool.false_eq_true, if_true, if_false, reduceIte, intO, ne_eq, not_true_eq_false, not_false_eq_true, decide_true, decide_false, Bool.not_true, Bool.not_false, isi_int_lst, isi_int_tup, isi_int_int, isi_int_bl, isi_int_str, isi_int_non, isi_bool_lst, isi_bool_tup, isi_bool_int, isi_bool_bl, isi_bool_str, isi_bool_non, isi_str_lst, isi_str_tup, isi_str_int, isi_str_bl, isi_str_str, isi_str_non, isi_list_lst, isi_list_tup, isi_list_int, isi_list_bl, isi_list_str, isi_list_non, isi_tuple_lst, isi_tuple_tup, isi_tuple_int, isi_tuple_bl, isi_tuple_str, isi_tuple_non, is_lst, isnot_lst, is_tup, isnot_tup, is_int, isnot_int, is_bl, isnot_bl, is_str, isnot_str, is_non, isnot_non, setAt_ints, aug_add, aug_sub, ints'_get, ite_ok, ite_bl, exec_rai, exec_trx, wq_nx, wq_rt, wq_bk, wq_ct, wq_ex, wq_nil, wq_cons, laterq_nx, laterq_rt, laterq_bk, laterq_ct, laterq_n, laterq_r, laterq_b, laterq_c, caught_rt, caught_nx, idx_p0, idx_p1, R.ex_out, R.ex_bind])
theorem is_row_any (hf : fs[f]? = some (F_is_row fw)) (hw : fs[fw]? = some (F_within fh)) (hh : fs[fh]? = some F_whole) (m : Int) (t : Tr) (h : nsc1 t = true) (hz : (itemsOf t).length ≤ 1000000) : runF fs gl fuel (k + 3) f [.int m, t] = .ok (.bl (isRowT m t)) := by
  refine run_eq hf rfl ?_
  show wp _ (execs _ _ [some (.int m), some t, none])
  simp only [F_is_row]
  cases t with
  | scr ns => cases h
  | non => walk_at "sx"; rfl
  | bl b => walk_at "sx"; rfl
  | int i => walk_at "sx"; rfl
  | str s => walk_at "sx"; rfl
  | lst ts => walk_at "sx"; rfl
  | tup ts =>
    have h : ts.all nscT = true := by
      unfold nsc1 at h
      rw [Bool.and_eq_true] at h
      exact h.2
    have hz : ts.length ≤ 1000000 := hz
    have q : ∀ x ∈ ts, runF fs gl fuel (k + 2) fw [x, .int 0, .int 1] = .ok (.bl (withT x 0 1)) := fun x hx => within_any hw hh x (List.all_eq_true.mp h x hx) 0 1
    walk_at "sx"
    unfold isRowT isTupT itemsOf
    by_cases hm : (ts.length : Int) = m
    · simp only [hm, decide_true, if_true]
      rw [comp_i (xs := ts) (fun x => .bl (withT x 0 1)) (by walk_at "sx") (by omega) fun x hx => by
        walk_at "sx"
        exact q x hx]
      walk_at "sx"
      rw [all_map]
      simp only [R.ok_out, later_rt, wp_rt, Bool.true_and]
    · simp only [hm, decide_false, Bool.false_eq_true, if_false, R.ok_out, later_rt, wp_rt, Bool.false_and, Bool.true_and]
theorem law_is_row_any (hf : fs[f]? = some F_law_is_row) (m : Int) (t : Tr) (h : nsc1 t = true) (hz : (itemsOf t).length ≤ 1000000) : runF fs gl fuel (k + 1) f [.int m, t] = .ok (.bl (isRowT m t)) := by
  refine run_eq hf rfl ?_
  show wp _ (execs _ _ [some (.int m), some t, none])
  simp only [F_law_is_row]
  cases t with
  | scr ns => cases h
  | non => walk_at "sx"; rfl
  | bl b => walk_at "sx"; rfl
  | int i => walk_at "sx"; rfl
  | str s => walk_at "sx"; rfl
  | lst ts => walk_at "sx"; rfl
  | tup ts =>
    have h : ts.all nscT = true := by
      unfold nsc1 at h
      rw [Bool.and_eq_true] at h
      exact h.2
    walk_at "sx"
    unfold isRowT isTupT itemsOf
    by_cases hm : (ts.length : Int) = m
    · simp only [hm, not_true_eq_false, decide_false, Bool.false_eq_true, if_false, R.ok_out, decide_true, Bool.true_and]
      walk_at "sx"
      refine wp_for (xs := ts) (by walk_at "sx") (fun i ρ => (∃ u, ρ = [some (.int m), some (.tup ts), u]) ∧ ∀ j (hj : j < ts.length), j < i → withT ts[j] 0 1 = true) ⟨⟨_, rfl⟩, fun j _ hj => absurd hj (Nat.not_lt_zero _)⟩ (fun i hi ρ hI => ?_) fun ρ hI => ?_
      · obtain ⟨⟨u, rfl⟩, hI⟩ := hI
        have hn := List.all_eq_true.mp h ts[i] (List.getElem_mem _)
        have bad : withT ts[i] 0 1 = false → Tr.bl false = Tr.bl (ts.all fun x => withT x 0 1) := fun hb => by
          have : (ts.all fun x => withT x 0 1) = false := List.all_eq_false.mpr ⟨ts[i], List.getElem_mem _, by rw [hb]; simp⟩
          rw [this]
        have good : withT ts[i] 0 1 = true → ∀ j (hj : j < ts.length), j < i + 1 → withT ts[j] 0 1 = true := fun hg j hj h1 => by
          by_cases e : j = i
          · subst e; exact hg
          · exact hI j hj (by omega)
        generalize ts[i] = x at hn bad good
        cases x with
        | scr ns => cases hn
        | non => walk_at "sx"; exact bad rfl
        | bl b => walk_at "sx"; exact bad rfl
        | str s => walk_at "sx"; exact bad rfl
        | lst us => walk_at "sx"; exact bad rfl
        | tup us => walk_at "sx"; exact bad rfl
        | int y =>
          walk_at "sx"
          by_cases h0 : y < 0
          · simp only [h0, decide_true, if_true, R.ok_out, later_rt, wp_rt]
            try walk_at "sx"
            exact bad (by unfold withT wholeT numT; simp; omega)
          · simp only [h0, decide_false, Bool.false_eq_true, if_false, R.ok_out]
            try walk_at "sx"
            by_cases h1 : 1 < y
            · simp only [h1, decide_true, if_true, R.ok_out, later_rt, wp_rt]
              try walk_at "sx"
              exact bad (by unfold withT wholeT numT; simp; omega)
            · simp only [h1, decide_false, Bool.false_eq_true, if_false, R.ok_out]
              try walk_at "sx"
              exact ⟨⟨_, rfl⟩, good (by unfold withT wholeT numT; simp; omega)⟩
      · obtain ⟨⟨u, rfl⟩, hI⟩ := hI
        walk_at "sx"
        have : (ts.all fun x => withT x 0 1) = true := List.all_eq_true.mpr fun x hx => by
          obtain ⟨j, hj, rfl⟩ := List.getElem_of_mem hx
          exact hI j hj hj
        rw [this]
    · simp only [hm, not_false_eq_true, decide_true, if_true, R.ok_out, decide_false, Bool.false_and, Bool.true_and]
      walk_at "sx"
end
end Jr.P

/-! Plain: cases and votes checked. -/
namespace Jr.P
open PySem Jr
theorem isRowT_row {m : Int} {t : Tr} (h : isRowT m t = true) : ∃ r, t = rowT r ∧ IsRow m.toNat r ∧ (r.length : Int) = m := by
  unfold isRowT at h
  simp only [Bool.and_eq_true, decide_eq_true_eq] at h
  obtain ⟨h1, h2, h3⟩ := h
  cases t <;> first
    | (cases h1; done)
    | skip
  rename_i ts
  have key : ∀ us : List Tr, (us.all fun x => withT x 0 1) = true → ∃ r, us = ints' r ∧ ∀ x ∈ r, x = 0 ∨ x = 1 := fun us => by
    induction us with
    | nil => exact fun _ => ⟨[], rfl, fun x hx => nomatch hx⟩
    | cons u us ih =>
      intro hu
      rw [List.all_cons, Bool.and_eq_true] at hu
      obtain ⟨r, e1, e2⟩ := ih hu.2
      have h0 := hu.1
      unfold withT at h0
      simp only [Bool.and_eq_true, decide_eq_true_eq] at h0
      cases u <;> first
        | (cases h0.1; done)
        | skip
      rename_i i
      have h0 : true = true ∧ 0 ≤ i ∧ i ≤ 1 := h0
      refine ⟨i :: r, by rw [e1]; rfl, fun x hx => ?_⟩
      rcases List.mem_cons.mp hx with rfl | hx
      · omega
      · exact e2 x hx
  obtain ⟨r, e1, e2⟩ := key ts h3
  subst e1
  have h2 : ((ints' r).length : Int) = m := h2
  rw [ints'_length] at h2
  exact ⟨r, rfl, ⟨by omega, e2⟩, h2⟩
theorem isRowT_of {m : Nat} {r : List Int} (h : IsRow m r) : isRowT m (rowT r) = true := by
  unfold isRowT
  simp only [Bool.and_eq_true, decide_eq_true_eq]
  refine ⟨rfl, ?_, List.all_eq_true.mpr fun x hx => ?_⟩
  · show ((ints' r).length : Int) = m
    rw [ints'_length, h.1]
  · obtain ⟨i, hi, rfl⟩ := List.mem_map.mp hx
    unfold withT wholeT numT
    have := h.2 i hi
    simp
    omega
theorem le_rows {a b : List Int} : cmpT .le (rowT a) (rowT b) = .ok (!ltv (rowT b) (rowT a)) := by
  show ordT (fun a b => !ltv b a) (rowT a) (rowT b) = _
  unfold ordT
  rw [alk_rows, sh_row, sh_row]
  rfl
theorem trx_ret {c : Ctx} {hs : List Hd} {tbl : List (Str × Option Tr)} {e : Ex} {ρ : Env} : exec c (.trx hs tbl (.cons (.ret e) .nil)) ρ = match evE c e ρ with
    | .ok t => .rt t
    | .ex x => caughtO hs tbl (.ex x ρ)
    | .no => .no := by
  rw [exec_trx, execs_cons, exec_ret]
  generalize evE c e ρ = r
  cases r <;> rfl
theorem trx_expr {c : Ctx} {hs : List Hd} {tbl : List (Str × Option Tr)} {e : Ex} {ρ : Env} : exec c (.trx hs tbl (.cons (.expr e) .nil)) ρ = match evE c e ρ with
    | .ok _ => .nx ρ
    | .ex x => caughtO hs tbl (.ex x ρ)
    | .no => .no := by
  rw [exec_trx, execs_cons, exec_expr]
  generalize evE c e ρ = r
  cases r <;> rfl
/-- the k-th is no row, or none behind the one before -/
def badAt (m : Int) (ts : List Tr) (k : Nat) : Bool := !isRowT m (ts.getD k .non) || (decide (0 < k) && !ltv (ts.getD (k - 1) .non) (ts.getD k .non))
def anyBad (m : Int) (ts : List Tr) : Bool := (List.range ts.length).any (badAt m ts)
theorem anyBad_t {m : Int} {ts : List Tr} {k : Nat} (hk : k < ts.length) (h : badAt m ts k = true) : anyBad m ts = true := List.any_eq_true.mpr ⟨k, List.mem_range.mpr hk, h⟩
theorem anyBad_f {m : Int} {ts : List Tr} (h : ∀ k, k < ts.length → badAt m ts k = false) : anyBad m ts = false := List.any_eq_false.mpr fun k hk => by
  rw [h k (List.mem_range.mp hk)]
  simp
def caseR (t : Tr) (ts : List Tr) : R Tr := if withT t 1 6 = true then (if anyBad (numT t) ts = true then .ex "InvalidRow" else if ts = [] then .ex "WrongCount" else .ok .non) else .ex "WrongCount"
def caseS (t : Tr) (ts : List Tr) : Str := if withT t 1 6 = true then (if anyBad (numT t) ts = true then "row" else if ts = [] then "count" else "good") else "count"
def F_check_case (g fw fr : Nat) : Fn where
  name := "check_case"
  np := 1
  N := ["case", "m", "rows", "k", "row"]
  body := .cons (.setp (.tup [.var 1, .var 2]) (.var 0)) (
    .cons (.ife (.not (.call fw (.cons (.var 1) (.cons (.int 1) (.cons (.gl g) (.nil)))))) (.cons (.rai "WrongCount") .nil) (.nil)) (
    .cons (.for [] (.tup [.var 3, .var 4]) (.enum (.var 2)) (.cons (.ife (.or (.not (.call fr (.cons (.var 1) (.cons (.var 4) (.nil))))) (.and (.cmp .gt (.var 3) (.int 0)) (.cmp .le (.var 4) (.idx (.var 2) (.bin .sub (.var 3) (.int 1)))))) (.cons (.rai "InvalidRow") .nil) (.nil)) .nil)) (
    .cons (.ife (.not (.var 2)) (.cons (.rai "WrongCount") .nil) (.nil)) .nil)))
  fr := true
def F_case_due (fr : Nat) : Fn where
  name := "_law_due"
  np := 2
  N := ["m", "rows", "k"]
  body := .cons (.ife (.or (.not (.isi .int (.var 0))) (.or (.isi .bool (.var 0)) (.or (.cmp .lt (.var 0) (.int 1)) (.cmp .gt (.var 0) (.int 6))))) (.cons (.ret (.str "count")) .nil) (.nil)) (
    .cons (.for [] (.var 2) (.rng1 (.bi .len (.cons (.var 1) (.nil)))) (.cons (.ife (.or (.not (.call fr (.cons (.var 0) (.cons (.idx (.var 1) (.var 2)) (.nil))))) (.and (.cmp .gt (.var 2) (.int 0)) (.cmp .le (.idx (.var 1) (.var 2)) (.idx (.var 1) (.bin .sub (.var 2) (.int 1)))))) (.cons (.ret (.str "row")) .nil) (.nil)) .nil)) (
    .cons (.ret (.idx (.lst (.cons (.str "good") (.cons (.str "count") (.nil)))) (.bi .int (.cons (.cmp .eq (.bi .len (.cons (.var 1) (.nil))) (.int 0)) (.nil))))) .nil))
  fr := false
theorem enumL_length {ts : List Tr} : (enumL ts).length = ts.length := by
  unfold enumL
  rw [List.length_map, List.length_zipIdx]
theorem enumL_get {ts : List Tr} {i : Nat} (h : i < (enumL ts).length) : (enumL ts)[i] = .tup [.int (i : Nat), ts[i]'(by rw [enumL_length] at h; exact h)] := by
  simp [enumL]
theorem getD_get {ts : List Tr} {i : Nat} (h : i < ts.length) : ts.getD i .non = ts[i] := by
  rw [List.getD_eq_getElem?_getD, List.getElem?_eq_getElem h]
  rfl
theorem enum_lst {ts : List Tr} : enumT (.lst ts) = .ok (enumL ts) := no_rfl rfl
theorem tru_lst {ts : List Tr} : tru (.lst ts) = .ok (!ts.isEmpty) := no_rfl rfl
/-- trees that may be asked whether they are rows -/
def Ask (ts : List Tr) : Prop := ts.length ≤ 1000000 ∧ ∀ t ∈ ts, nsc1 t = true ∧ (itemsOf t).length ≤ 1000000
section
variable {fs : List Fn} {gl : List Tr} {fuel k f g fw fh fr fl : Nat}
local macro_rules | `(tactic| walk_at "sx") => `(tactic| simp (disch := omega) only [evE_int, evE_bl, evE_non, evE_str, evE_var, evE_gl, evE_im, evE_bin, evE_neg, evE_not, evE_cmp, evE_chain, evE_and, evE_or, evE_ite, evE_tup, evE_lst, evE_idx, evE_slc, evE_ind, lstT_lst, evE_rev, evE_call, evE_bi, evE_isi, evEs_nil, evEs_cons, evI_of, evI_rng1, evI_rng2, evI_enum, evI_zip, exec_set, exec_setp, exec_par, exec_seti, exec_aug, exec_app, exec_ife, exec_ret, exec_retn, exec_brk, exec_cnt, exec_pass, exec_expr, evC_def, tstT, parT, R.ok_bind, R.ok_out, R.ok_nox, wp_nx, wp_rt, wp_bk, wp_ct, wp_nil, wp_cons, later_nx, later_rt, later_bk, later_ct, later_n, later_r, later_r', later_b', later_c', List.getElem?_cons_zero, List.getElem?_cons_succ, Option.getD_some, Option.getD_none, ofO_some, List.set_cons_zero, List.set_cons_succ, bin_add, bin_sub, mul_r, mul_l, bin_fdiv, bin_mod, pow_18, cmp_eq, cmp_ne, cmp_lt, cmp_le, cmp_gt, cmp_ge, tru_bl, tru_int, neg_int, int_int, int_bl, abs_int, len_lst, len_tup, len_scr, max_int, min_int, gcd_int, list_lst, list_tup, tuple_lst, sum_ints, idx_ints, idx_scr, idx_3, idx_2, rng_1, rng_2, itemsT, bindP_var, bindP_tup, bindP_lst, bindPs_nil, bindPs_cons, divmod_int, lsz_le, lsz_0, lsz_1, lsz_2, lsz_3, lsz_4, lsz_5, lsz_6, lsz_7, lsz_8, if_lt_SZ, if_le_SZ, ints'_snoc, List.length_append, ints'_length, List.length_nil, List.length_cons, Nat.reduceAdd, Bool.false_eq_true, if_true, if_false, reduceIte, intO, ne_eq, not_true_eq_false, not_false_eq_true, decide_true, decide_false, Bool.not_true, Bool.not_false, isi_int_lst, isi_int_tup, isi_int_int, isi_int_bl, isi_int_str, isi_int_non, isi_bool_lst, isi_bool_tup, isi_bool_int, isi_bool_bl, isi_bool_str, isi_bool_non, isi_str_lst, isi_str_tup, isi_str_int, isi_str_bl, isi_str_str, isi_str_non, isi_list_lst, isi_list_tup, isi_list_int, isi_list_bl, isi_list_str, isi_list_non, isi_tuple_lst, isi_tuple_tup, isi_tuple_int, isi_tuple_bl, isi_tuple_str, isi_tuple_non, is_lst, isnot_lst, is_tup, isnot_tup, is_int, isnot_int, is_bl, isnot_bl, is_str, isnot_str, is_non, isnot_non, setAt_ints, aug_add, aug_sub, ints'_get, ite_ok, ite_bl, exec_rai, exec_trx, wq_nx, wq_rt, wq_bk, wq_ct, wq_ex, wq_nil, wq_cons, laterq_nx, laterq_rt, laterq_bk, laterq_ct, laterq_n, laterq_r, laterq_b, laterq_c, caught_rt, caught_nx, idx_p0, idx_p1, R.ex_out, R.ex_bind])
local macro_rules | `(tactic| walk_at "sxs") => `(tactic| simp (disch := omega) only [*, evE_int, evE_bl, evE_non, evE_str, evE_var, evE_gl, evE_im, evE_bin, evE_neg, evE_not, evE_cmp, evE_chain, evE_and, evE_or, evE_ite, evE_tup, evE_lst, evE_idx, evE_slc, evE_ind, lstT_lst, evE_rev, evE_call, evE_bi, evE_isi, evEs_nil, evEs_cons, evI_of, evI_rng1, evI_rng2, evI_enum, evI_zip, exec_set, exec_setp, exec_par, exec_seti, exec_aug, exec_app, exec_ife, exec_ret, exec_retn, exec_brk, exec_cnt, exec_pass, exec_expr, evC_def, tstT, parT, R.ok_bind, R.ok_out, R.ok_nox, wp_nx, wp_rt, wp_bk, wp_ct, wp_nil, wp_cons, later_nx, later_rt, later_bk, later_ct, later_n, later_r, later_r', later_b', later_c', List.getElem?_cons_zero, List.getElem?_cons_succ, Option.getD_some, Option.getD_none, ofO_some, List.set_cons_zero, List.set_cons_succ, bin_add, bin_sub, mul_r, mul_l, bin_fdiv, bin_mod, pow_18, cmp_eq, cmp_ne, cmp_lt, cmp_le, cmp_gt, cmp_ge, tru_bl, tru_int, neg_int, int_int, int_bl, abs_int, len_lst, len_tup, len_scr, max_int, min_int, gcd_int, list_lst, list_tup, tuple_lst, sum_ints, idx_ints, idx_scr, idx_3, idx_2, rng_1, rng_2, itemsT, bindP_var, bindP_tup, bindP_lst, bindPs_nil, bindPs_cons, divmod_int, lsz_le, lsz_0, lsz_1, lsz_2, lsz_3, lsz_4, lsz_5, lsz_6, lsz_7, lsz_8, if_lt_SZ, if_le_SZ, ints'_snoc, List.length_append, ints'_length, List.length_nil, List.length_cons, Nat.reduceAdd, Bool.false_eq_true, if_true, if_false, reduceIte, intO, ne_eq, not_true_eq_false, not_false_eq_true, decide_true, decide_false, Bool.not_true, Bool.not_false, isi_int_lst, isi_int_tup, isi_int_int, isi_int_bl, isi_int_str, isi_int_non, isi_bool_lst, isi_bool_tup, isi_bool_int, isi_bool_bl, isi_bool_str, isi_bool_non, isi_str_lst, isi_str_tup, isi_str_int, isi_str_bl, isi_str_str, isi_str_non, isi_list_lst, isi_list_tup, isi_list_int, isi_list_bl, isi_list_str, isi_list_non, isi_tuple_lst, isi_tuple_tup, isi_tuple_int, isi_tuple_bl, isi_tuple_str, isi_tuple_non, is_lst, isnot_lst, is_tup, isnot_tup, is_int, isnot_int, is_bl, isnot_bl, is_str, isnot_str, is_non, isnot_non, setAt_ints, aug_add, aug_sub, ints'_get, ite_ok, ite_bl, exec_rai, exec_trx, wq_nx, wq_rt, wq_bk, wq_ct, wq_ex, wq_nil, wq_cons, laterq_nx, laterq_rt, laterq_bk, laterq_ct, laterq_n, laterq_r, laterq_b, laterq_c, caught_rt, caught_nx, idx_p0, idx_p1, R.ex_out, R.ex_bind])
theorem idxL {ts : List Tr} {i : Nat} (h : i < ts.length) : idxT (.lst ts) (.int (i : Int)) = .ok (ts[i]) := by
  rw [idx_lst (by omega) (by omega)]
  simp
theorem check_case_q (hf : fs[f]? = some (F_check_case g fw fr)) (hg : gl[g]? = some (.int 6)) (hr : fs[fr]? = some (F_is_row fw)) (hw : fs[fw]? = some (F_within fh)) (hh : fs[fh]? = some F_whole) (t : Tr) (ts : List Tr) (ht : nscT t = true) (ha : Ask ts) :
    runF fs gl fuel (k + 4) f [.tup [t, .lst ts]] = caseR t ts := by
  refine run_q (fun r => r = caseR t ts) hf rfl ?_
  show wq _ _ (execs _ _ [some (.tup [t, .lst ts]), none, none, none, none])
  simp only [F_check_case]
  have qw : runF fs gl fuel (k + 3) fw [t, .int 1, .int 6] = .ok (.bl (withT t 1 6)) := within_any (k := k + 1) hw hh t ht 1 6
  unfold caseR
  walk_at "sx"
  simp only [hg, ofO_some, R.ok_bind, qw]
  walk_at "sx"
  by_cases h : withT t 1 6 = true
  · obtain ⟨m, rfl⟩ : ∃ m, t = .int m := by
      unfold withT at h
      cases t <;> first
        | exact ⟨_, rfl⟩
        | cases h
    simp only [h, Bool.not_true, Bool.false_eq_true, if_false, if_true]
    walk_at "sx"
    refine wq_cutL (fun ρ => (∃ u v, ρ = [some (.tup [.int m, .lst ts]), some (.int m), some (.lst ts), u, v]) ∧ anyBad m ts = false) ?_ ?_
    · refine wq_for (xs := enumL ts) (by walk_at "sx"; exact enum_lst) (fun i ρ => (∃ u v, ρ = [some (.tup [.int m, .lst ts]), some (.int m), some (.lst ts), u, v]) ∧ ∀ j, j < i → badAt m ts j = false) ⟨⟨_, _, rfl⟩, fun j hj => absurd hj (Nat.not_lt_zero _)⟩ (fun i hi ρ hI => ?_) fun ρ hI => ?_
      · obtain ⟨⟨u, v, rfl⟩, hI⟩ := hI
        have hi' : i < ts.length := by rw [enumL_length] at hi; exact hi
        obtain ⟨n1, n2⟩ := ha.2 ts[i] (List.getElem_mem _)
        have qr : runF fs gl fuel (k + 3) fr [.int m, ts[i]] = .ok (.bl (isRowT m ts[i])) := is_row_any hr hw hh m ts[i] n1 n2
        have bad : badAt m ts i = true → R.ex "InvalidRow" = (if anyBad m ts = true then (.ex "InvalidRow" : R Tr) else if ts = [] then .ex "WrongCount" else .ok .non) := fun hb => by
          rw [anyBad_t hi' hb, if_pos rfl]
        have ext : badAt m ts i = false → ∀ j, j < i + 1 → badAt m ts j = false := fun hb j hj => by
          by_cases e : j = i
          · rw [e]; exact hb
          · exact hI j (by omega)
        rw [enumL_get hi]
        walk_at "sx"
        simp only [qr, R.ok_bind]
        walk_at "sx"
        cases hrow : isRowT m ts[i] with
        | false =>
          simp only [Bool.not_false, if_true, R.ok_out, tstT, tru_bl, R.ok_bind]
          walk_at "sx"
          exact bad (by unfold badAt; rw [getD_get hi', hrow]; rfl)
        | true =>
          simp only [Bool.not_true, Bool.false_eq_true, if_false]
          by_cases h0 : (0 : Int) < i
          · simp only [h0, decide_true, if_true]
            have hp : i - 1 < ts.length := by omega
            have c1 : idxT (.lst ts) (.int ((i : Int) - 1)) = .ok ts[i - 1] := by
              rw [show (i : Int) - 1 = ((i - 1 : Nat) : Int) by omega]
              exact idxL hp
            have hbp : isRowT m ts[i - 1] = true := by
              have := hI (i - 1) (by omega)
              unfold badAt at this
              rw [getD_get hp] at this
              cases q : isRowT m ts[i - 1] with
              | true => rfl
              | false => rw [q] at this; cases this
            obtain ⟨r, e1, _⟩ := isRowT_row hrow
            obtain ⟨r', e2, _⟩ := isRowT_row hbp
            have hbi : badAt m ts i = !ltv (rowT r') (rowT r) := by
              unfold badAt
              rw [getD_get hi', hrow, getD_get hp, e1, e2, decide_eq_true (show 0 < i by omega)]
              rfl
            simp only [c1, R.ok_bind]
            rw [e1, e2, le_rows]
            simp only [R.ok_bind, R.ok_out, tstT, tru_bl]
            cases hl : ltv (rowT r') (rowT r) with
            | true =>
              simp only [Bool.not_true, Bool.false_eq_true, if_false]
              walk_at "sx"
              exact ⟨⟨_, _, rfl⟩, ext (by rw [hbi, hl]; rfl)⟩
            | false =>
              simp only [Bool.not_false, if_true]
              walk_at "sx"
              exact bad (by rw [hbi, hl]; rfl)
          · simp only [h0, decide_false, Bool.false_eq_true, if_false, R.ok_bind, R.ok_out, tstT, tru_bl]
            walk_at "sx"
            exact ⟨⟨_, _, rfl⟩, ext (by unfold badAt; rw [getD_get hi', hrow, decide_eq_false (show ¬ 0 < i by omega)]; rfl)⟩
      · obtain ⟨⟨u, v, rfl⟩, hI⟩ := hI
        rw [enumL_length] at hI
        walk_at "sx"
        exact ⟨⟨_, _, rfl⟩, anyBad_f fun j hj => hI j hj⟩
    · rintro ρ ⟨⟨u, v, rfl⟩, hb⟩
      have hb : anyBad (numT (.int m)) ts = false := hb
      simp only [hb, Bool.false_eq_true, if_false]
      walk_at "sx"
      simp only [tru_lst, R.ok_bind]
      cases ts with
      | nil =>
        simp only [List.isEmpty_nil, Bool.not_true, Bool.not_false, R.ok_out, tstT, tru_bl, if_true]
        walk_at "sx"
      | cons t ts =>
        simp only [List.isEmpty_cons, Bool.not_true, Bool.not_false, Bool.false_eq_true, if_false, R.ok_out, tstT, tru_bl]
        walk_at "sx"
        rfl
  · have h : withT t 1 6 = false := by
      cases q : withT t 1 6 with
      | true => exact absurd q h
      | false => rfl
    simp only [h, Bool.not_false, if_true, Bool.false_eq_true, if_false]
    walk_at "sx"
end
end Jr.P

/-! Plain: a new value changed in place and never read again. -/
namespace Jr.P
open PySem Jr
section
variable {P : Post} {X : Str → Prop} {c : Jr.Ctx} {i : Nat} {e : Ex} {gs : List Ex} {d : Option Ex} {ks : List (List Nat × Ex)} {r : Sts} {ρ ρ1 ρ2 : Jr.Env} {o : O} {t : Tr} {m n : Nat} {p : List Nat}
theorem execs_kil : execs c (.kil i e gs d ks r) ρ = inR ρ[i]? ((evE c e ρ).out ρ fun t => guardO c gs (ρ.set i (some t)) (killD c t d ks (ρ.set i (some t)) (ρ.set i none) (execs c r (ρ.set i none)))) := no_rfl rfl
theorem inR_some {x : Option Tr} : inR (some x) o = o := no_rfl rfl
theorem guardO_nil : guardO c [] ρ o = o := no_rfl rfl
theorem guardO_cons {g : Ex} : guardO c (g :: gs) ρ o = ((evC c g ρ).out ρ fun b => if b = true then .rt (.bl false) else guardO c gs ρ o) := no_rfl rfl
theorem killD_none : killD c t none ks ρ1 ρ2 o = killO c t ks.length ks ρ2 o := no_rfl rfl
theorem killD_some {d : Ex} : killD c t (some d) ks ρ1 ρ2 o = ((evC c d ρ1).out ρ1 fun b => if b = true then killO c t ks.length ks ρ2 o else o) := no_rfl rfl
theorem killO_nil : killO c t m [] ρ o = o := no_rfl rfl
def onLst (x : Option Tr) (f : List Tr → O) : O := match x with
  | some (.lst ts) => f ts
  | _ => .no
theorem onLst_lst {ts : List Tr} {f : List Tr → O} : onLst (some (.lst ts)) f = f ts := no_rfl rfl
theorem killO_cons {x : Ex} : killO c t m ((p, x) :: ks) ρ o = onLst (pathT t p) fun ts => if ts.length + m < SZ then (evE c x ρ).out ρ fun _ => killO c t m ks ρ o else .no := no_rfl rfl
theorem path_nil : pathT t [] = some t := no_rfl rfl
theorem path_cons : pathT t (n :: p) = (pathT t p).bind fun u => childT u n := no_rfl rfl
theorem child_lst {ts : List Tr} : childT (.lst ts) n = ts[n]? := no_rfl rfl
theorem child_tup {ts : List Tr} : childT (.tup ts) n = ts[n]? := no_rfl rfl
end
end Jr.P

/-! Plain: law k17, weights. -/
namespace Lk17
open PySem Jr Jr.P
local macro_rules | `(tactic| walk_at "sx") => `(tactic| simp (disch := omega) only [evE_int, evE_bl, evE_non, evE_str, evE_var, evE_gl, evE_im, evE_ims, evE_bin, evE_neg, evE_not, evE_cmp, evE_chain, evE_and, evE_or, evE_ite, evE_tup, evE_lst, evE_idx, evE_slc, evE_slk, evE_ind, lstT_lst, evE_rev, evE_call, evE_bi, evE_isi, evEs_nil, evEs_cons, evI_of, evI_rng1, evI_rng2, evI_enum, evI_zip, exec_set, exec_setp, exec_par, exec_seti, exec_aug, exec_app, exec_ife, exec_ret, exec_retn, exec_brk, exec_cnt, exec_pass, exec_expr, evC_def, tstT, parT, R.ok_bind, R.ok_out, R.ok_nox, wp_nx, wp_rt, wp_bk, wp_ct, wp_nil, wp_cons, later_nx, later_rt, later_bk, later_ct, later_n, later_r, later_r', later_b', later_c', List.getElem?_cons_zero, List.getElem?_cons_succ, Option.getD_some, Option.getD_none, ofO_some, List.set_cons_zero, List.set_cons_succ, bin_add, bin_sub, mul_r, mul_l, bin_fdiv, bin_mod, pow_18, cmp_eq, cmp_ne, cmp_lt, cmp_le, cmp_gt, cmp_ge, tru_bl, tru_int, neg_int, int_int, int_bl, abs_int, len_lst, len_tup, len_scr, max_int, min_int, gcd_int, list_lst, list_tup, tuple_lst, sum_ints, idx_ints, idx_scr, idx_3, idx_2, rng_1, rng_2, itemsT, bindP_var, bindP_tup, bindP_lst, bindPs_nil, bindPs_cons, divmod_int, lsz_le, lsz_0, lsz_1, lsz_2, lsz_3, lsz_4, lsz_5, lsz_6, lsz_7, lsz_8, if_lt_SZ, if_le_SZ, ints'_snoc, List.length_append, ints'_length, List.length_nil, List.length_cons, Nat.reduceAdd, Bool.false_eq_true, if_true, if_false, reduceIte, intO, ne_eq, not_true_eq_false, not_false_eq_true, decide_true, decide_false, Bool.not_true, Bool.not_false, isi_int_lst, isi_int_tup, isi_int_int, isi_int_bl, isi_int_str, isi_int_non, isi_bool_lst, isi_bool_tup, isi_bool_int, isi_bool_bl, isi_bool_str, isi_bool_non, isi_str_lst, isi_str_tup, isi_str_int, isi_str_bl, isi_str_str, isi_str_non, isi_list_lst, isi_list_tup, isi_list_int, isi_list_bl, isi_list_str, isi_list_non, isi_tuple_lst, isi_tuple_tup, isi_tuple_int, isi_tuple_bl, isi_tuple_str, isi_tuple_non, is_lst, isnot_lst, is_tup, isnot_tup, is_int, isnot_int, is_bl, isnot_bl, is_str, isnot_str, is_non, isnot_non, setAt_ints, aug_add, aug_sub, ints'_get, ite_ok, ite_bl, exec_rai, exec_trx, wq_nx, wq_rt, wq_bk, wq_ct, wq_ex, wq_nil, wq_cons, laterq_nx, laterq_rt, laterq_bk, laterq_ct, laterq_n, laterq_r, laterq_b, laterq_c, caught_rt, caught_nx, idx_p0, idx_p1, R.ex_out, R.ex_bind])
local macro_rules | `(tactic| walk_at "sxs") => `(tactic| simp (disch := omega) only [*, evE_int, evE_bl, evE_non, evE_str, evE_var, evE_gl, evE_im, evE_ims, evE_bin, evE_neg, evE_not, evE_cmp, evE_chain, evE_and, evE_or, evE_ite, evE_tup, evE_lst, evE_idx, evE_slc, evE_slk, evE_ind, lstT_lst, evE_rev, evE_call, evE_bi, evE_isi, evEs_nil, evEs_cons, evI_of, evI_rng1, evI_rng2, evI_enum, evI_zip, exec_set, exec_setp, exec_par, exec_seti, exec_aug, exec_app, exec_ife, exec_ret, exec_retn, exec_brk, exec_cnt, exec_pass, exec_expr, evC_def, tstT, parT, R.ok_bind, R.ok_out, R.ok_nox, wp_nx, wp_rt, wp_bk, wp_ct, wp_nil, wp_cons, later_nx, later_rt, later_bk, later_ct, later_n, later_r, later_r', later_b', later_c', List.getElem?_cons_zero, List.getElem?_cons_succ, Option.getD_some, Option.getD_none, ofO_some, List.set_cons_zero, List.set_cons_succ, bin_add, bin_sub, mul_r, mul_l, bin_fdiv, bin_mod, pow_18, cmp_eq, cmp_ne, cmp_lt, cmp_le, cmp_gt, cmp_ge, tru_bl, tru_int, neg_int, int_int, int_bl, abs_int, len_lst, len_tup, len_scr, max_int, min_int, gcd_int, list_lst, list_tup, tuple_lst, sum_ints, idx_ints, idx_scr, idx_3, idx_2, rng_1, rng_2, itemsT, bindP_var, bindP_tup, bindP_lst, bindPs_nil, bindPs_cons, divmod_int, lsz_le, lsz_0, lsz_1, lsz_2, lsz_3, lsz_4, lsz_5, lsz_6, lsz_7, lsz_8, if_lt_SZ, if_le_SZ, ints'_snoc, List.length_append, ints'_length, List.length_nil, List.length_cons, Nat.reduceAdd, Bool.false_eq_true, if_true, if_false, reduceIte, intO, ne_eq, not_true_eq_false, not_false_eq_true, decide_true, decide_false, Bool.not_true, Bool.not_false, isi_int_lst, isi_int_tup, isi_int_int, isi_int_bl, isi_int_str, isi_int_non, isi_bool_lst, isi_bool_tup, isi_bool_int, isi_bool_bl, isi_bool_str, isi_bool_non, isi_str_lst, isi_str_tup, isi_str_int, isi_str_bl, isi_str_str, isi_str_non, isi_list_lst, isi_list_tup, isi_list_int, isi_list_bl, isi_list_str, isi_list_non, isi_tuple_lst, isi_tuple_tup, isi_tuple_int, isi_tuple_bl, isi_tuple_str, isi_tuple_non, is_lst, isnot_lst, is_tup, isnot_tup, is_int, isnot_int, is_bl, isnot_bl, is_str, isnot_str, is_non, isnot_non, setAt_ints, aug_add, aug_sub, ints'_get, ite_ok, ite_bl, exec_rai, exec_trx, wq_nx, wq_rt, wq_bk, wq_ct, wq_ex, wq_nil, wq_cons, laterq_nx, laterq_rt, laterq_bk, laterq_ct, laterq_n, laterq_r, laterq_b, laterq_c, caught_rt, caught_nx, idx_p0, idx_p1, R.ex_out, R.ex_bind])
theorem e_numbers : fns[1]? = some F_numbers := rfl
theorem e_cell : fns[5]? = some F_cell := rfl
theorem e_same : fns[17]? = some (F_same 17) := rfl
theorem e_within : fns[13]? = some (F_within 14) := rfl
theorem e_whole : fns[14]? = some F_whole := rfl
theorem e_msay : fns[20]? = some (F_most_say 21) := rfl
theorem e_mon : fns[21]? = some (F_most_on 22) := rfl
theorem e_yes : fns[22]? = some F_yes := rfl
theorem rng_nat {n : Nat} : rngL 0 (n : Int) = (List.range n).map fun i : Nat => Tr.int (i : Int) := by
  unfold rngL
  rw [show ((n : Int) - 0).toNat = n by omega]
  exact List.map_congr_left fun i _ => congrArg Tr.int (by omega)
def SS : Nat → List (List Nat)
  | 0 => [[]]
  | n + 1 => SS n ++ (SS n).map fun S => S ++ [n]
theorem SS_len : ∀ n, (SS n).length = 2 ^ n
  | 0 => rfl
  | n + 1 => by
    show (SS n ++ _).length = _
    rw [List.length_append, List.length_map, SS_len n, Nat.pow_succ]
    omega
theorem SS_mem : ∀ n S, S ∈ SS n → (∀ i ∈ S, i < n) ∧ S.length ≤ n
  | 0, S, h => by
    rw [List.mem_singleton.mp h]
    exact ⟨(fun i h => nomatch h), Nat.le_refl 0⟩
  | n + 1, S, h => by
    rcases List.mem_append.mp h with h | h
    · have := SS_mem n S h
      exact ⟨fun i hi => by have := this.1 i hi; omega, by omega⟩
    · obtain ⟨S', h', rfl⟩ := List.mem_map.mp h
      have := SS_mem n S' h'
      refine ⟨fun i hi => ?_, by rw [List.length_append]; show _ + 1 ≤ _; omega⟩
      rcases List.mem_append.mp hi with hi | hi
      · have := this.1 i hi
        omega
      · rw [List.mem_singleton.mp hi]
        omega
def nT (S : List Nat) : Tr := .lst (S.map fun i : Nat => .int (i : Int))
def wT (ws : List Int) : Tr := .lst (ints' ws)
theorem idx_w {ws : List Int} {i : Nat} (h : i < ws.length) : idxT (wT ws) (.int (i : Int)) = .ok (.int (ws.getD i 0)) := by
  unfold wT
  rw [idxL (by rw [ints'_length]; exact h), ints'_get, List.getD_eq_getElem?_getD, List.getElem?_eq_getElem h]
  rfl
theorem idx_vs {vs : List (List Int)} {i : Nat} (h : i < vs.length) : idxT (.lst (vs.map rowT)) (.int (i : Int)) = .ok (rowT (vs.getD i [])) := by
  rw [idxL (by rw [List.length_map]; exact h), List.getElem_map, List.getD_eq_getElem?_getD, List.getElem?_eq_getElem h]
  rfl
theorem getD_at {α : Type} {l : List α} {k : Nat} {d : α} (h : k < l.length) : l.getD k d = l[k] := by
  rw [List.getD_eq_getElem?_getD, List.getElem?_eq_getElem h]
  rfl
/-- the weight of some -/
def wsum (ws : List Int) (S : List Nat) : Int := (S.map fun j => ws.getD j 0).sum
def hvy (ws : List Int) (S : List Nat) : Bool := decide (2 * wsum ws S > ws.sum)
section
variable {k : Nat}
theorem sets_ok (n : Nat) (hn : n ≤ 10) : runF fns gls 2000 (k + 1) 16 [.int (n : Int)] = .ok (.lst ((SS n).map nT)) := by
  refine run_eq (d := f__law_sets) rfl rfl ?_
  show wp _ (execs _ _ [some (.int (n : Int)), none, none, none])
  simp only [f__law_sets]
  walk_at "sx"
  refine wp_for (xs := rngL 0 (n : Int)) (by walk_at "sx") (fun i ρ => ∃ u2, ρ = [some (.int (n : Int)), some (.lst ((SS i).map nT)), u2, none]) ⟨_, rfl⟩ (fun i hi ρ hI => ?_) (fun ρ hI => ?_)
  · obtain ⟨u2, rfl⟩ := hI
    rw [rngL_length] at hi
    simp only [rngL_get, Int.zero_add]
    have hp : 2 ^ i ≤ 1024 := Nat.le_trans (Nat.pow_le_pow_right (by omega) (show i ≤ 10 by omega)) (by decide)
    have hs := SS_len i
    have cp : evE ⟨runF fns gls 2000 k, gls, 2000⟩ (.comp (.var 3) (.of (.var 1)) (.nil) (.bin .add (.var 3) (.lst (.cons (.var 2) (.nil))))) [some (.int (n : Int)), some (.lst ((SS i).map nT)), some (.int (i : Int)), none]
        = .ok (.lst ((SS i).map fun S => nT (S ++ [i]))) :=
      comp_v (xs := SS i) nT (fun S => nT (S ++ [i])) (by walk_at "sx") (by omega) (fun S hS => by
        have hl := (SS_mem i S hS).2
        have ba : binT .add (nT S) (.lst [.int (i : Int)]) = .ok (nT (S ++ [i])) := by
          unfold nT
          rw [bin_add_lst (by rw [List.length_map]; show _ + 1 ≤ _; omega), List.map_append]
          rfl
        repeat (first | simp only [ba, R.ok_bind, R.ok_out] | walk_at "sx"))
    have ba : binT .add (.lst ((SS i).map nT)) (.lst ((SS i).map fun S => nT (S ++ [i]))) = .ok (.lst ((SS (i + 1)).map nT)) := by
      rw [bin_add_lst (by rw [List.length_map, List.length_map]; omega)]
      show _ = R.ok (Tr.lst ((SS i ++ (SS i).map fun S => S ++ [i]).map nT))
      rw [List.map_append, List.map_map]
      rfl
    repeat (first | simp only [cp, ba, R.ok_bind, R.ok_out] | walk_at "sx")
    exact ⟨_, rfl⟩
  · obtain ⟨u2, rfl⟩ := hI
    rw [rngL_length, show ((n : Int) - 0).toNat = n by omega]
    walk_at "sx"
theorem ansL_ok (m : Nat) (hm : m ≤ 8) : ∃ rs : List (List Int), (∀ r ∈ rs, IsRow m r) ∧ rs.length = 2 ^ m ∧ ∀ k, runF fns gls 2000 (k + 1) 4 [.int (m : Int)] = .ok (.lst (rs.map rowT)) := by
  refine ⟨(List.range m).foldl (fun (rs : List (List Int)) _ => rs.flatMap fun r => [r ++ [0], r ++ [1]]) [[]], ?_⟩
  have key : ∀ i : Nat, (∀ r ∈ (List.range i).foldl (fun (rs : List (List Int)) _ => rs.flatMap fun r => [r ++ [0], r ++ [1]]) [[]], IsRow i r) ∧ ((List.range i).foldl (fun (rs : List (List Int)) _ => rs.flatMap fun r => [r ++ [0], r ++ [1]]) [[]]).length = 2 ^ i := by
    intro i
    induction i with
    | zero => exact ⟨fun r hr => by rw [List.mem_singleton.mp hr]; exact ⟨rfl, fun x h => nomatch h⟩, rfl⟩
    | succ i ih =>
      rw [List.range_succ, List.foldl_append]
      generalize (List.range i).foldl (fun (rs : List (List Int)) _ => rs.flatMap fun r => [r ++ [0], r ++ [1]]) [[]] = rs at ih
      refine ⟨fun r hr => ?_, ?_⟩
      · obtain ⟨s, hs, h⟩ := List.mem_flatMap.mp (show r ∈ rs.flatMap fun r => [r ++ [0], r ++ [1]] from hr)
        rcases List.mem_cons.mp h with rfl | h
        · exact row_snoc (ih.1 s hs) (.inl rfl)
        · rw [List.mem_singleton.mp h]
          exact row_snoc (ih.1 s hs) (.inr rfl)
      · show (rs.flatMap fun r => [r ++ [0], r ++ [1]]).length = _
        have : ∀ l : List (List Int), (l.flatMap fun r => [r ++ [0], r ++ [1]]).length = 2 * l.length := by
          intro l
          induction l with
          | nil => rfl
          | cons a l ih =>
            rw [List.flatMap_cons, List.length_append, ih]
            simp only [List.length_cons, List.length_nil]
            omega
        rw [this, ih.2, Nat.pow_succ]
        omega
  refine ⟨(key m).1, (key m).2, fun k => ?_⟩
  have hpow : ∀ i : Nat, i ≤ 8 → 2 ^ i ≤ 256 := fun i hi => Nat.le_trans (Nat.pow_le_pow_right (by omega) hi) (by decide)
  refine run_eq (d := f__law_answers) rfl rfl ?_
  show wp _ (execs _ _ [some (.int (m : Int)), none, none, none, none])
  simp only [f__law_answers]
  walk_at "sx"
  obtain ⟨A, hA⟩ : ∃ A : Nat → List (List Int), A = fun i => (List.range i).foldl (fun (rs : List (List Int)) _ => rs.flatMap fun r => [r ++ [0], r ++ [1]]) [[]] := ⟨_, rfl⟩
  have k1 : ∀ i, ∀ r ∈ A i, IsRow i r := fun i => by rw [hA]; exact (key i).1
  have k2 : ∀ i, (A i).length = 2 ^ i := fun i => by rw [hA]; exact (key i).2
  have k3 : ∀ i, A (i + 1) = (A i).flatMap fun r => [r ++ [0], r ++ [1]] := fun i => by
    rw [hA]
    show (List.range (i + 1)).foldl _ _ = _
    rw [List.range_succ, List.foldl_append]
    rfl
  have k4 : A 0 = [[]] := by rw [hA]; rfl
  have k5 : A m = (List.range m).foldl (fun (rs : List (List Int)) _ => rs.flatMap fun r => [r ++ [0], r ++ [1]]) [[]] := by rw [hA]
  rw [← k5]
  refine wp_for (xs := rngL 0 (m : Int)) (by walk_at "sx") (fun i ρ => ∃ (u2 u3 u4 : Option Tr), ρ = [some (.int (m : Int)), some (.lst ((A i).map rowT)), u2, u3, u4]) ⟨_, _, _, by rw [k4]; rfl⟩ (fun i hi ρ hI => ?_) (fun ρ hI => ?_)
  · obtain ⟨u2, u3, u4, rfl⟩ := hI
    rw [rngL_length] at hi
    simp only [rngL_get, Int.zero_add]
    have hp := hpow i (by omega)
    have hAl := k2 i
    walk_at "sx"
    refine wp_cutL (fun ρ => ∃ u4, ρ = [some (.int (m : Int)), some (.lst ((A i).map rowT)), some (.int (i : Int)), some (.lst ((A (i + 1)).map rowT)), u4]) ?_ ?_
    · rw [k3]
      refine wp_for (xs := (A i).map rowT) (by walk_at "sx") (fun j ρ => ∃ u4, ρ = [some (.int (m : Int)), some (.lst ((A i).map rowT)), some (.int (i : Int)), some (.lst ((((A i).take j).flatMap fun r => [r ++ [0], r ++ [1]]).map rowT)), u4]) ⟨_, rfl⟩ (fun j hj ρ hI => ?_) (fun ρ hI => ?_)
      · obtain ⟨u4, rfl⟩ := hI
        rw [List.length_map] at hj
        rw [List.getElem_map]
        have hr := k1 i _ (List.getElem_mem hj)
        have htk : (A i).take (j + 1) = (A i).take j ++ [(A i)[j]] := (List.take_append_getElem hj).symm
        rw [htk, List.flatMap_append]
        generalize (A i)[j]'(by omega) = r at hr
        have hrl := hr.1
        have hfl : (((A i).take j).flatMap fun r => [r ++ [0], r ++ [1]]).length ≤ j * 2 := by
          have := flat_len (F := fun r : List Int => [r ++ [0], r ++ [1]]) (c := 2) (xs := (A i).take j) fun r _ => Nat.le_refl _
          rw [List.length_take, Nat.min_eq_left (by omega)] at this
          exact this
        generalize ((A i).take j).flatMap (fun r => [r ++ [0], r ++ [1]]) = qs at hfl
        have ad : ∀ x : Int, binT .add (rowT r) (.tup [.int x]) = .ok (rowT (r ++ [x])) := fun x => by
          have := bin_add_tup (a := ints' r) (b := ints' [x]) (by rw [ints'_length]; show _ + 1 ≤ _; omega)
          refine this.trans ?_
          unfold rowT ints'
          rw [← List.map_append]
        have al : binT .add (.lst (qs.map rowT)) (.lst [rowT (r ++ [0]), rowT (r ++ [1])]) = .ok (.lst ((qs ++ [r].flatMap fun r => [r ++ [0], r ++ [1]]).map rowT)) := by
          rw [bin_add_lst (by rw [List.length_map]; show _ + 2 ≤ _; omega), List.map_append]
          rfl
        repeat (first | simp only [ad, al, R.ok_bind, R.ok_out] | walk_at "sx")
        exact ⟨_, rfl⟩
      · obtain ⟨u4, rfl⟩ := hI
        rw [List.length_map, List.take_length]
        walk_at "sx"
        exact ⟨_, rfl⟩
    · rintro ρ ⟨u4, rfl⟩
      walk_at "sx"
      exact ⟨_, _, _, rfl⟩
  · obtain ⟨u2, u3, u4, rfl⟩ := hI
    rw [rngL_length, show ((m : Int) - 0).toNat = m by omega]
    walk_at "sx"
variable {ws : List Int}
theorem comp_w {c : Jr.Ctx} {ρ : Jr.Env} {S : List Nat} (hS : ∀ j ∈ S, j < ws.length) (hl : S.length ≤ 1000) (h0 : ρ = [some (wT ws), some (nT S), none]) : evE c (.comp (.var 2) (.of (.var 1)) (.nil) (.idx (.var 0) (.var 2))) ρ = .ok (.lst (ints' (S.map fun j => ws.getD j 0))) := by
  subst h0
  have := comp_v (c := c) (v := 2) (it := .of (.var 1)) (b := .idx (.var 0) (.var 2)) (ρ := [some (wT ws), some (nT S), none]) (xs := S) (fun j : Nat => Tr.int (j : Int)) (fun j => Tr.int (ws.getD j 0)) (by walk_at "sx"; rfl) (by omega) (fun j hj => by
    have ix := idx_w (hS j hj)
    repeat (first | simp only [ix, R.ok_bind, R.ok_out] | walk_at "sx"))
  rw [this]
  unfold ints'
  rw [List.map_map]
  rfl
theorem weight_ok {S : List Nat} (hS : ∀ j ∈ S, j < ws.length) (hl : S.length ≤ 1000) : runF fns gls 2000 (k + 1) 9 [wT ws, nT S] = .ok (.int (wsum ws S)) := by
  refine run_eq (d := f_weight_of) rfl rfl ?_
  show wp _ (execs _ _ [some (wT ws), some (nT S), none])
  simp only [f_weight_of]
  have cp := comp_w (c := ⟨runF fns gls 2000 k, gls, 2000⟩) (ρ := [some (wT ws), some (nT S), none]) hS hl rfl
  repeat (first | simp only [cp, R.ok_bind, R.ok_out] | walk_at "sx")
  rfl
theorem heavy_ok {S : List Nat} (hS : ∀ j ∈ S, j < ws.length) (hl : S.length ≤ 1000) : runF fns gls 2000 (k + 2) 8 [wT ws, nT S] = .ok (.bl (hvy ws S)) := by
  refine run_eq (d := f_is_heavy) rfl rfl ?_
  show wp _ (execs _ _ [some (wT ws), some (nT S)])
  simp only [f_is_heavy]
  have q : runF fns gls 2000 (k + 1) 9 [wT ws, nT S] = .ok (.int (wsum ws S)) := weight_ok hS hl
  have su : biT .sum [wT ws] = .ok (.int ws.sum) := sum_ints
  repeat (first | simp only [q, su, R.ok_bind, R.ok_out] | walk_at "sx")
  rfl
theorem lheavy_ok {S : List Nat} (hS : ∀ j ∈ S, j < ws.length) (hl : S.length ≤ 1000) : runF fns gls 2000 (k + 1) 19 [wT ws, nT S] = .ok (.bl (hvy ws S)) := by
  refine run_eq (d := f__law_heavy) rfl rfl ?_
  show wp _ (execs _ _ [some (wT ws), some (nT S), none])
  simp only [f__law_heavy]
  have cp := comp_w (c := ⟨runF fns gls 2000 k, gls, 2000⟩) (ρ := [some (wT ws), some (nT S), none]) hS hl rfl
  have s1 : biT .sum [.lst (ints' (S.map fun j => ws.getD j 0))] = .ok (.int (wsum ws S)) := sum_ints
  have su : biT .sum [wT ws] = .ok (.int ws.sum) := sum_ints
  repeat (first | simp only [cp, s1, su, R.ok_bind, R.ok_out] | walk_at "sx")
  rfl
end
theorem wsum_rev (ws : List Int) (S : List Nat) : wsum ws S.reverse = wsum ws S := by
  unfold wsum
  rw [List.map_reverse]
  generalize S.map (fun j => ws.getD j 0) = l
  induction l with
  | nil => rfl
  | cons a l ih =>
    rw [List.reverse_cons, List.sum_append, ih, List.sum_cons]
    simp
    omega
theorem hvy_rev (ws : List Int) (S : List Nat) : hvy ws S.reverse = hvy ws S := by
  unfold hvy
  rw [wsum_rev]
end Lk17

/-! Plain: sorted lists; pieces of answers. -/
namespace Jr.P
open PySem PySem.W Jr
local macro_rules | `(tactic| walk_at "sx") => `(tactic| simp (disch := omega) only [evE_int, evE_bl, evE_non, evE_str, evE_var, evE_gl, evE_im, evE_bin, evE_neg, evE_not, evE_cmp, evE_chain, evE_and, evE_or, evE_ite, evE_tup, evE_lst, evE_idx, evE_slc, evE_ind, lstT_lst, evE_rev, evE_call, evE_bi, evE_isi, evEs_nil, evEs_cons, evI_of, evI_rng1, evI_rng2, evI_enum, evI_zip, exec_set, exec_setp, exec_par, exec_seti, exec_aug, exec_app, exec_ife, exec_ret, exec_retn, exec_brk, exec_cnt, exec_pass, exec_expr, evC_def, tstT, parT, R.ok_bind, R.ok_out, R.ok_nox, wp_nx, wp_rt, wp_bk, wp_ct, wp_nil, wp_cons, later_nx, later_rt, later_bk, later_ct, later_n, later_r, later_r', later_b', later_c', List.getElem?_cons_zero, List.getElem?_cons_succ, Option.getD_some, Option.getD_none, ofO_some, List.set_cons_zero, List.set_cons_succ, bin_add, bin_sub, mul_r, mul_l, bin_fdiv, bin_mod, pow_18, cmp_eq, cmp_ne, cmp_lt, cmp_le, cmp_gt, cmp_ge, tru_bl, tru_int, neg_int, int_int, int_bl, abs_int, len_lst, len_tup, len_scr, max_int, min_int, gcd_int, list_lst, list_tup, tuple_lst, sum_ints, idx_ints, idx_scr, idx_3, idx_2, rng_1, rng_2, itemsT, bindP_var, bindP_tup, bindPs_nil, bindPs_cons, divmod_int, lsz_le, lsz_0, lsz_1, lsz_2, lsz_3, lsz_4, lsz_5, lsz_6, lsz_7, lsz_8, if_lt_SZ, if_le_SZ, ints'_snoc, List.length_append, ints'_length, List.length_nil, List.length_cons, Nat.reduceAdd, Bool.false_eq_true, if_true, if_false, reduceIte, intO, ne_eq, not_true_eq_false, not_false_eq_true, decide_true, decide_false, Bool.not_true, Bool.not_false, isi_int_lst, isi_int_tup, isi_int_int, isi_int_bl, isi_int_str, isi_int_non, isi_bool_lst, isi_bool_tup, isi_bool_int, isi_bool_bl, isi_bool_str, isi_bool_non, isi_str_lst, isi_str_tup, isi_str_int, isi_str_bl, isi_str_str, isi_str_non, isi_list_lst, isi_list_tup, isi_list_int, isi_list_bl, isi_list_str, isi_list_non, isi_tuple_lst, isi_tuple_tup, isi_tuple_int, isi_tuple_bl, isi_tuple_str, isi_tuple_non, is_lst, isnot_lst, is_tup, isnot_tup, is_int, isnot_int, is_bl, isnot_bl, is_str, isnot_str, is_non, isnot_non, setAt_ints, aug_add, aug_sub, ints'_get, ite_ok, ite_bl])
local macro_rules | `(tactic| walk_at "sxs") => `(tactic| simp (disch := omega) only [*, evE_int, evE_bl, evE_non, evE_str, evE_var, evE_gl, evE_im, evE_bin, evE_neg, evE_not, evE_cmp, evE_chain, evE_and, evE_or, evE_ite, evE_tup, evE_lst, evE_idx, evE_slc, evE_ind, lstT_lst, evE_rev, evE_call, evE_bi, evE_isi, evEs_nil, evEs_cons, evI_of, evI_rng1, evI_rng2, evI_enum, evI_zip, exec_set, exec_setp, exec_par, exec_seti, exec_aug, exec_app, exec_ife, exec_ret, exec_retn, exec_brk, exec_cnt, exec_pass, exec_expr, evC_def, tstT, parT, R.ok_bind, R.ok_out, R.ok_nox, wp_nx, wp_rt, wp_bk, wp_ct, wp_nil, wp_cons, later_nx, later_rt, later_bk, later_ct, later_n, later_r, later_r', later_b', later_c', List.getElem?_cons_zero, List.getElem?_cons_succ, Option.getD_some, Option.getD_none, ofO_some, List.set_cons_zero, List.set_cons_succ, bin_add, bin_sub, mul_r, mul_l, bin_fdiv, bin_mod, pow_18, cmp_eq, cmp_ne, cmp_lt, cmp_le, cmp_gt, cmp_ge, tru_bl, tru_int, neg_int, int_int, int_bl, abs_int, len_lst, len_tup, len_scr, max_int, min_int, gcd_int, list_lst, list_tup, tuple_lst, sum_ints, idx_ints, idx_scr, idx_3, idx_2, rng_1, rng_2, itemsT, bindP_var, bindP_tup, bindPs_nil, bindPs_cons, divmod_int, lsz_le, lsz_0, lsz_1, lsz_2, lsz_3, lsz_4, lsz_5, lsz_6, lsz_7, lsz_8, if_lt_SZ, if_le_SZ, ints'_snoc, List.length_append, ints'_length, List.length_nil, List.length_cons, Nat.reduceAdd, Bool.false_eq_true, if_true, if_false, reduceIte, intO, ne_eq, not_true_eq_false, not_false_eq_true, decide_true, decide_false, Bool.not_true, Bool.not_false, isi_int_lst, isi_int_tup, isi_int_int, isi_int_bl, isi_int_str, isi_int_non, isi_bool_lst, isi_bool_tup, isi_bool_int, isi_bool_bl, isi_bool_str, isi_bool_non, isi_str_lst, isi_str_tup, isi_str_int, isi_str_bl, isi_str_str, isi_str_non, isi_list_lst, isi_list_tup, isi_list_int, isi_list_bl, isi_list_str, isi_list_non, isi_tuple_lst, isi_tuple_tup, isi_tuple_int, isi_tuple_bl, isi_tuple_str, isi_tuple_non, is_lst, isnot_lst, is_tup, isnot_tup, is_int, isnot_int, is_bl, isnot_bl, is_str, isnot_str, is_non, isnot_non, setAt_ints, aug_add, aug_sub, ints'_get, ite_ok, ite_bl])
/-! ### sorted: the order -/
theorem ltv_irr (a : Tr) : ltv a a = false := PyProof.Rows.lex_irrefl _
theorem ltv_tr {a b c : Tr} (h1 : ltv a b = true) (h2 : ltv b c = true) : ltv a c = true := PyProof.Rows.lex_trans _ _ _ h1 h2
theorem ltv_neg {a c : Tr} (b : Tr) (h : ltv a c = true) : ltv a b = true ∨ ltv b c = true := PyProof.Rows.lex_negTrans _ _ _ h
theorem ltv_asy {a b : Tr} (h : ltv a b = true) : ltv b a = false := by
  cases h2 : ltv b a with
  | false => rfl
  | true =>
    have := ltv_tr h h2
    rw [ltv_irr] at this
    cases this
theorem srt_pw (ts : List Tr) : (srtT ts).Pairwise fun a b => ltv b a = false := by
  have h := List.pairwise_mergeSort (le := fun a b : Tr => !ltv b a) (fun a b c h1 h2 => by
    rw [Bool.not_eq_true'] at h1 h2 ⊢
    cases h3 : ltv c a with
    | false => rfl
    | true =>
      rcases ltv_neg b h3 with h | h
      · rw [h2] at h; cases h
      · rw [h1] at h; cases h) (fun a b => by
    cases h : ltv b a with
    | false => rfl
    | true => rw [ltv_asy h]; rfl) ts
  exact h.imp fun h => by rw [Bool.not_eq_true'] at h; exact h
theorem srt_perm (ts : List Tr) : (srtT ts).Perm ts := List.mergeSort_perm _ _
/-! ### pieces -/
abbrev Pc := List (Int × Int)
def pcT (p : Pc) : Tr := .tup (p.map pT)
theorem pT_inj {a b : Int × Int} (h : pT a = pT b) : a = b := by
  obtain ⟨a1, a2⟩ := a
  obtain ⟨b1, b2⟩ := b
  unfold pT at h
  injection h with h
  injection h with h1 h2
  injection h2 with h2 _
  injection h1 with h1
  injection h2 with h2
  rw [show a1 = b1 from h1, show a2 = b2 from h2]
theorem pTs_inj : ∀ {a b : Pc}, a.map pT = b.map pT → a = b
  | [], [], _ => rfl
  | [], b :: bs, h => nomatch h
  | a :: as, [], h => nomatch h
  | a :: as, b :: bs, h => by
    rw [List.map_cons, List.map_cons] at h
    injection h with h1 h2
    rw [pT_inj h1, pTs_inj h2]
theorem pcT_inj {a b : Pc} (h : pcT a = pcT b) : a = b := pTs_inj (Tr.tup.inj h)
/-- a tuple of pairs of questions, ascending, and answers -/
structure IsPc (m : Nat) (p : Pc) : Prop where
  rg : ∀ x ∈ p, 0 ≤ x.1 ∧ x.1 < m ∧ (x.2 = 0 ∨ x.2 = 1)
  pw : p.Pairwise fun a b => a.1 < b.1
theorem IsPc.len {m : Nat} : ∀ {p : Pc}, IsPc m p → p.length ≤ m := by
  have key : ∀ (p : Pc) (a : Int), (∀ x ∈ p, a ≤ x.1 ∧ x.1 < m) → p.Pairwise (fun a b => a.1 < b.1) → a ≤ m → (p.length : Int) ≤ m - a := by
    intro p
    induction p with
    | nil => intro a _ _ h; simp; omega
    | cons x p ih =>
      intro a h pw ha
      rw [List.pairwise_cons] at pw
      have hx := h x List.mem_cons_self
      have := ih (x.1 + 1) (fun y hy => ⟨by have := pw.1 y hy; omega, (h y (List.mem_cons_of_mem _ hy)).2⟩) pw.2 (by omega)
      rw [List.length_cons]
      omega
  intro p h
  have := key p 0 (fun x hx => ⟨(h.rg x hx).1, (h.rg x hx).2.1⟩) h.pw (by omega)
  omega
theorem IsPc.nil (m : Nat) : IsPc m [] := ⟨(fun x h => nomatch h), List.Pairwise.nil⟩
theorem IsPc.erase {m : Nat} {p : Pc} (h : IsPc m p) (k : Nat) : IsPc m (p.eraseIdx k) :=
  ⟨fun x hx => h.rg x ((List.eraseIdx_sublist p k).subset hx), h.pw.sublist (List.eraseIdx_sublist p k)⟩
theorem pc_split {k : Nat} {p : Pc} : IsPc (k + 1) p ↔ IsPc k p ∨ ∃ s x, IsPc k s ∧ (x = 0 ∨ x = 1) ∧ p = s ++ [((k : Int), x)] := by
  constructor
  · intro h
    rcases List.eq_nil_or_concat p with rfl | ⟨s, y, rfl⟩
    · exact .inl (IsPc.nil k)
    · rw [List.concat_eq_append] at h ⊢
      have hp := h.pw
      rw [List.pairwise_append] at hp
      have hy := h.rg y (by simp)
      have hs : ∀ x ∈ s, 0 ≤ x.1 ∧ x.1 < y.1 ∧ (x.2 = 0 ∨ x.2 = 1) := fun x hx => by
        have h1 := h.rg x (List.mem_append_left _ hx)
        exact ⟨h1.1, hp.2.2 x hx y (by simp), h1.2.2⟩
      by_cases e : y.1 = k
      · refine .inr ⟨s, y.2, ⟨fun x hx => ?_, hp.1⟩, hy.2.2, by rw [← e]⟩
        have := hs x hx
        exact ⟨this.1, by omega, this.2.2⟩
      · refine .inl ⟨fun x hx => ?_, h.pw⟩
        rcases List.mem_append.mp hx with hx | hx
        · have := hs x hx
          exact ⟨this.1, by omega, this.2.2⟩
        · rw [List.mem_singleton.mp hx]
          exact ⟨hy.1, by omega, hy.2.2⟩
  · rintro (h | ⟨s, x, h, hx, rfl⟩)
    · exact ⟨fun x hx => (by have := h.rg x hx; exact ⟨this.1, by omega, this.2.2⟩), h.pw⟩
    · refine ⟨fun y hy => ?_, ?_⟩
      · rcases List.mem_append.mp hy with hy | hy
        · have := h.rg y hy
          exact ⟨this.1, by omega, this.2.2⟩
        · rw [List.mem_singleton.mp hy]
          exact ⟨by show (0 : Int) ≤ k; omega, by show (k : Int) < (k + 1 : Nat); omega, hx⟩
      · rw [List.pairwise_append]
        refine ⟨h.pw, List.pairwise_singleton _ _, fun a ha b hb => ?_⟩
        rw [List.mem_singleton.mp hb]
        exact (h.rg a ha).2.1
/-- all pieces, the empty one too -/
def AllP (m : Nat) (ps : List Pc) : Prop := ∀ p, p ∈ ps ↔ IsPc m p
def addP (k : Nat) (x : Int) (p : Pc) : Pc := p ++ [((k : Int), x)]
theorem AllP.zero : AllP 0 [[]] := fun p => by
  rw [List.mem_singleton]
  constructor
  · rintro rfl
    exact IsPc.nil 0
  · intro h
    have := h.len
    exact List.length_eq_zero_iff.mp (by omega)
theorem AllP.succ {k : Nat} {ps qs : List Pc} (h : AllP k ps) (hq : ∀ p, p ∈ qs ↔ p ∈ ps ∨ p ∈ ps.map (addP k 0) ∨ p ∈ ps.map (addP k 1)) : AllP (k + 1) qs := fun p => by
  rw [hq, pc_split, h]
  refine or_congr_right ?_
  constructor
  · rintro (h1 | h1)
    · obtain ⟨s, hs, rfl⟩ := List.mem_map.mp h1
      exact ⟨s, 0, (h s).mp hs, .inl rfl, rfl⟩
    · obtain ⟨s, hs, rfl⟩ := List.mem_map.mp h1
      exact ⟨s, 1, (h s).mp hs, .inr rfl, rfl⟩
  · rintro ⟨s, x, hs, rfl | rfl, rfl⟩
    · exact .inl (List.mem_map.mpr ⟨s, (h s).mpr hs, rfl⟩)
    · exact .inr (List.mem_map.mpr ⟨s, (h s).mpr hs, rfl⟩)
/-- a tuple of answers has a piece; all rows lack it; none with a pair less is so -/
def hasP (r : List Int) (p : Pc) : Bool := p.all fun x => decide (r.getD x.1.toNat 0 = x.2)
def contr (rs : List (List Int)) (p : Pc) : Bool := !(rs.any fun r => hasP r p)
def smallest (rs : List (List Int)) (p : Pc) : Bool := contr rs p && !((List.range p.length).any fun k => contr rs (p.eraseIdx k))
theorem hasP_iff {r : List Int} {p : Pc} : hasP r p = true ↔ ∀ x ∈ p, r.getD x.1.toNat 0 = x.2 := by
  unfold hasP
  rw [List.all_eq_true]
  exact ⟨fun h x hx => of_decide_eq_true (h x hx), fun h x hx => decide_eq_true (h x hx)⟩
theorem contr_iff {rs : List (List Int)} {p : Pc} : contr rs p = true ↔ ∀ r ∈ rs, hasP r p = false := by
  unfold contr
  rw [Bool.not_eq_true', List.any_eq_false]
  exact ⟨fun h r hr => by have := h r hr; revert this; cases hasP r p <;> simp, fun h r hr => by rw [h r hr]; simp⟩
/-- in a piece that contradicts lies a smallest one -/
theorem has_smallest {rs : List (List Int)} : ∀ (n : Nat) (p : Pc), p.length ≤ n → contr rs p = true → ∃ q, q.Sublist p ∧ smallest rs q = true
  | 0, p, hl, h => by
    have : p = [] := List.length_eq_zero_iff.mp (by omega)
    subst this
    exact ⟨[], List.Sublist.refl _, by unfold smallest; rw [h]; rfl⟩
  | n + 1, p, hl, h => by
    by_cases hs : smallest rs p = true
    · exact ⟨p, List.Sublist.refl _, hs⟩
    · obtain ⟨k, hk, hc⟩ : ∃ k, k < p.length ∧ contr rs (p.eraseIdx k) = true := by
        refine Classical.byContradiction fun hno => hs ?_
        unfold smallest
        rw [h, Bool.true_and, Bool.not_eq_true', List.any_eq_false]
        intro k hk hc
        exact hno ⟨k, List.mem_range.mp hk, hc⟩
      obtain ⟨q, h1, h2⟩ := has_smallest n (p.eraseIdx k) (by rw [List.length_eraseIdx_of_lt hk]; omega) hc
      exact ⟨q, h1.trans (List.eraseIdx_sublist p k), h2⟩
/-! ### the most and the pieces -/
theorem yes_cons (v : List Int) (vs : List (List Int)) (q : Nat) : yes (v :: vs) q = v.getD q 0 + yes vs q := rfl
/-- how many of the votes have an answer -/
def cnt (vs : List (List Int)) (q : Nat) (a : Int) : Nat := vs.countP fun v => decide (v.getD q 0 = a)
theorem cnt_yes {m : Nat} {q : Nat} (hq : q < m) : ∀ {vs : List (List Int)}, (∀ v ∈ vs, IsRow m v) → (cnt vs q 1 : Int) = yes vs q ∧ (cnt vs q 0 : Int) = vs.length - yes vs q
  | [], _ => ⟨rfl, rfl⟩
  | v :: vs, h => by
    obtain ⟨h1, h2⟩ := cnt_yes hq fun v hv => h v (List.mem_cons_of_mem _ hv)
    have hv := h v List.mem_cons_self
    have hx : v.getD q 0 = 0 ∨ v.getD q 0 = 1 := by
      have hl : q < v.length := by rw [hv.1]; exact hq
      rw [List.getD_eq_getElem?_getD, List.getElem?_eq_getElem hl]
      exact hv.2 _ (List.getElem_mem hl)
    have c0 : ∀ a, cnt (v :: vs) q a = cnt vs q a + if v.getD q 0 = a then 1 else 0 := fun a => by
      unfold cnt
      rw [List.countP_cons]
      by_cases e : v.getD q 0 = a
      · rw [if_pos (decide_eq_true e), if_pos e]
      · rw [if_neg (by rw [decide_eq_true_iff]; exact e), if_neg e]
    rw [c0, c0, yes_cons, List.length_cons]
    rcases hx with hx | hx <;> rw [hx] <;> simp <;> omega
/-- more than half have what the most say -/
theorem mo_most {m : Nat} {q : Nat} (hq : q < m) {vs : List (List Int)} (h : ∀ v ∈ vs, IsRow m v) (hodd : vs.length % 2 = 1) (a : Int) (ha : mo vs q = a) : vs.length < 2 * cnt vs q a := by
  obtain ⟨h1, h2⟩ := cnt_yes hq h
  unfold mo at ha
  split at ha
  · subst ha; omega
  · subst ha; omega
theorem two_meet {vs : List (List Int)} {p q : List Int → Bool} (h1 : vs.length < 2 * vs.countP p) (h2 : vs.length < 2 * vs.countP q) : ∃ v ∈ vs, p v = true ∧ q v = true := by
  have key : ∀ l : List (List Int), l.countP p + l.countP q ≤ l.length + l.countP fun v => p v && q v := by
    intro l
    induction l with
    | nil => exact Nat.le_refl _
    | cons x l ih =>
      rw [List.countP_cons, List.countP_cons, List.countP_cons, List.length_cons]
      cases p x <;> cases q x <;> simp <;> omega
  have := key vs
  have hp : 0 < vs.countP fun v => p v && q v := by omega
  obtain ⟨v, hv, h⟩ := List.countP_pos_iff.mp hp
  rw [Bool.and_eq_true] at h
  exact ⟨v, hv, h⟩
def full (m : Nat) (r : List Int) : Pc := (List.range m).map fun q : Nat => ((q : Int), r.getD q 0)
theorem full_pc {m : Nat} {r : List Int} (h : IsRow m r) : IsPc m (full m r) := by
  refine ⟨fun x hx => ?_, ?_⟩
  · obtain ⟨q, hq, rfl⟩ := List.mem_map.mp hx
    have hq := List.mem_range.mp hq
    refine ⟨by show (0 : Int) ≤ q; omega, by show (q : Int) < m; omega, ?_⟩
    have hl : q < r.length := by rw [h.1]; exact hq
    show r.getD q 0 = 0 ∨ r.getD q 0 = 1
    rw [List.getD_eq_getElem?_getD, List.getElem?_eq_getElem hl]
    exact h.2 _ (List.getElem_mem hl)
  · unfold full
    rw [List.pairwise_map]
    exact List.pairwise_lt_range.imp fun h => by
      show ((_ : Nat) : Int) < ((_ : Nat) : Int)
      omega
theorem full_has {m : Nat} {r s : List Int} (hr : r.length = m) (hs : s.length = m) (h : hasP s (full m r) = true) : s = r := by
  rw [hasP_iff] at h
  refine List.ext_getElem (by omega) fun q h1 h2 => ?_
  have := h ((q : Int), r.getD q 0) (List.mem_map.mpr ⟨q, List.mem_range.mpr (by omega), rfl⟩)
  have : s.getD q 0 = r.getD q 0 := this
  rw [List.getD_eq_getElem?_getD, List.getElem?_eq_getElem h1, List.getD_eq_getElem?_getD, List.getElem?_eq_getElem h2] at this
  exact this
/-- where the smallest pieces have at most two pairs, what the most say is a row -/
theorem most_row {m : Nat} {rs vs : List (List Int)} (hrs : ∀ r ∈ rs, IsRow m r) (hne : rs ≠ []) (hsafe : ∀ p, IsPc m p → smallest rs p = true → p.length ≤ 2) (hv : ∀ v ∈ vs, v ∈ rs) (hodd : vs.length % 2 = 1) : maj m vs ∈ rs := by
  refine Classical.byContradiction fun hno => ?_
  have hvr : ∀ v ∈ vs, IsRow m v := fun v h => hrs v (hv v h)
  have hmr := maj_row m vs
  have hc : contr rs (full m (maj m vs)) = true := contr_iff.mpr fun r hr => by
    cases h : hasP r (full m (maj m vs)) with
    | false => rfl
    | true => exact absurd (full_has hmr.1 (hrs r hr).1 h ▸ hr) hno
  obtain ⟨p, hsub, hs⟩ := has_smallest _ _ (Nat.le_refl _) hc
  have hpc : IsPc m p := ⟨fun x hx => (full_pc hmr).rg x (hsub.subset hx), (full_pc hmr).pw.sublist hsub⟩
  have hl := hsafe p hpc hs
  have hcp : contr rs p = true := by
    unfold smallest at hs
    rw [Bool.and_eq_true] at hs
    exact hs.1
  rw [contr_iff] at hcp
  have hat : ∀ x ∈ p, vs.length < 2 * vs.countP fun v => decide (v.getD x.1.toNat 0 = x.2) := fun x hx => by
    obtain ⟨q, hq, rfl⟩ := List.mem_map.mp (hsub.subset hx)
    have hq := List.mem_range.mp hq
    exact mo_most hq hvr hodd _ (maj_get hq).symm
  rcases p with _ | ⟨x, _ | ⟨y, _ | ⟨z, p⟩⟩⟩
  · obtain ⟨r, hr⟩ := List.exists_mem_of_ne_nil rs hne
    have := hcp r hr
    cases this
  · have h1 := hat x (by simp)
    obtain ⟨v, hv1, hv2, _⟩ := two_meet h1 h1
    have h2 := hcp v (hv v hv1)
    have h3 : hasP v [x] = true := hasP_iff.mpr fun y hy => by
      rw [List.mem_singleton.mp hy]
      exact of_decide_eq_true hv2
    rw [h2] at h3
    cases h3
  · obtain ⟨v, hv1, hv2, hv3⟩ := two_meet (hat x (by simp)) (hat y (by simp))
    have h2 := hcp v (hv v hv1)
    have h3 : hasP v [x, y] = true := hasP_iff.mpr fun z hz => by
      rcases List.mem_cons.mp hz with rfl | hz
      · exact of_decide_eq_true hv2
      · rw [List.mem_singleton.mp hz]
        exact of_decide_eq_true hv3
    rw [h2] at h3
    cases h3
  · rw [List.length_cons, List.length_cons, List.length_cons] at hl
    omega
/-- three rows each of which lacks another pair of a piece -/
theorem three_rows {rs : List (List Int)} {p : Pc} (hs : smallest rs p = true) {k : Nat} (hk : k < p.length) : ∃ r ∈ rs, (∀ j (hj : j < p.length), j ≠ k → r.getD (p[j]).1.toNat 0 = (p[j]).2) ∧ r.getD (p[k]).1.toNat 0 ≠ (p[k]).2 := by
  unfold smallest at hs
  rw [Bool.and_eq_true, Bool.not_eq_true', List.any_eq_false] at hs
  have h1 := hs.2 k (List.mem_range.mpr hk)
  have h1 : contr rs (p.eraseIdx k) = false := by
    cases h : contr rs (p.eraseIdx k) with
    | false => rfl
    | true => exact absurd h h1
  unfold contr at h1
  rw [Bool.not_eq_false', List.any_eq_true] at h1
  obtain ⟨r, hr, h2⟩ := h1
  rw [hasP_iff] at h2
  have h3 : ∀ j (hj : j < p.length), j ≠ k → r.getD (p[j]).1.toNat 0 = (p[j]).2 := fun j hj hne => by
    refine h2 _ ?_
    rw [List.mem_eraseIdx_iff_getElem]
    exact ⟨j, hj, hne, rfl⟩
  refine ⟨r, hr, h3, fun h4 => ?_⟩
  have h5 := contr_iff.mp hs.1 r hr
  have h6 : hasP r p = true := hasP_iff.mpr fun x hx => by
    obtain ⟨j, hj, rfl⟩ := List.getElem_of_mem hx
    by_cases e : j = k
    · subst e; exact h4
    · exact h3 j hj e
  rw [h5] at h6
  cases h6
theorem mo_perm {a b : List (List Int)} (h : a.Perm b) (q : Nat) : mo a q = mo b q := by
  have e : yes a q = yes b q := by
    have : ∀ {x y : List Int}, x.Perm y → x.sum = y.sum := fun h => by
      induction h with
      | nil => rfl
      | cons x _ ih => rw [List.sum_cons, List.sum_cons, ih]
      | swap x y l => simp only [List.sum_cons]; omega
      | trans _ _ h1 h2 => rw [h1, h2]
    exact this (h.map _)
  unfold mo
  rw [e, h.length_eq]
theorem maj_perm {a b : List (List Int)} (h : a.Perm b) (m : Nat) : maj m a = maj m b := List.map_congr_left fun q _ => mo_perm h q
/-- a smallest piece of three pairs lets three rows say no row -/
theorem most_no_row {m : Nat} {rs : List (List Int)} (hrs : ∀ r ∈ rs, IsRow m r) {p : Pc} (hp : IsPc m p) (hs : smallest rs p = true) (hl : 3 ≤ p.length) :
    ∃ i j k : Nat, ∃ (h3 : k < rs.length), ∃ (h1 : i < j), ∃ (h2 : j < k), maj m [rs[i]'(by omega), rs[j]'(by omega), rs[k]] ∉ rs := by
  obtain ⟨a, ha, a1, a2⟩ := three_rows hs (k := 0) (by omega)
  obtain ⟨b, hb, b1, b2⟩ := three_rows hs (k := 1) (by omega)
  obtain ⟨c, hc, c1, c2⟩ := three_rows hs (k := 2) (by omega)
  have hno : ∀ l : List (List Int), l.Perm [a, b, c] → maj m l ∉ rs := fun l hl' hmem => by
    rw [maj_perm hl'] at hmem
    have hcp : contr rs p = true := by
      unfold smallest at hs
      rw [Bool.and_eq_true] at hs
      exact hs.1
    have h5 := contr_iff.mp hcp _ hmem
    have h6 : hasP (maj m [a, b, c]) p = true := hasP_iff.mpr fun x hx => by
      obtain ⟨j, hj, rfl⟩ := List.getElem_of_mem hx
      have hr := hp.rg _ (List.getElem_mem hj)
      rw [maj_get (by omega)]
      obtain ⟨q, hq⟩ : ∃ q, q = (p[j]).1.toNat := ⟨_, rfl⟩
      obtain ⟨y, hy⟩ : ∃ y, y = (p[j]).2 := ⟨_, rfl⟩
      have g : ∀ r ∈ rs, r.getD q 0 = 0 ∨ r.getD q 0 = 1 := fun r hr' => by
        have hrow := hrs r hr'
        have hl2 : q < r.length := by rw [hrow.1]; omega
        rw [List.getD_eq_getElem?_getD, List.getElem?_eq_getElem hl2]
        exact hrow.2 _ (List.getElem_mem hl2)
      have ga := g a ha
      have gb := g b hb
      have gc := g c hc
      have ey : yes [a, b, c] q = a.getD q 0 + (b.getD q 0 + (c.getD q 0 + 0)) := rfl
      have el : (([a, b, c] : List (List Int)).length : Int) = 3 := rfl
      unfold mo
      rw [← hq, ← hy, ey, el]
      have hyr : y = 0 ∨ y = 1 := by rw [hy]; exact hr.2.2
      have two : (a.getD q 0 = y ∧ b.getD q 0 = y) ∨ (a.getD q 0 = y ∧ c.getD q 0 = y) ∨ (b.getD q 0 = y ∧ c.getD q 0 = y) := by
        rw [hq, hy]
        by_cases e0 : j = 0
        · exact .inr (.inr ⟨b1 j hj (by omega), c1 j hj (by omega)⟩)
        · by_cases e1 : j = 1
          · exact .inr (.inl ⟨a1 j hj e0, c1 j hj (by omega)⟩)
          · exact .inl ⟨a1 j hj e0, b1 j hj e1⟩
      generalize a.getD q 0 = xa at ga two
      generalize b.getD q 0 = xb at gb two
      generalize c.getD q 0 = xc at gc two
      split <;> omega
    rw [h5] at h6
    cases h6
  have hab : a ≠ b := fun e => by
    subst e
    exact a2 (b1 0 (by omega) (by omega))
  have hac : a ≠ c := fun e => by
    subst e
    exact a2 (c1 0 (by omega) (by omega))
  have hbc : b ≠ c := fun e => by
    subst e
    exact b2 (c1 1 (by omega) (by omega))
  obtain ⟨x, hx, rfl⟩ := List.getElem_of_mem ha
  obtain ⟨y, hy, rfl⟩ := List.getElem_of_mem hb
  obtain ⟨z, hz, rfl⟩ := List.getElem_of_mem hc
  have nxy : x ≠ y := fun e => hab (by subst e; rfl)
  have nxz : x ≠ z := fun e => hac (by subst e; rfl)
  have nyz : y ≠ z := fun e => hbc (by subst e; rfl)
  by_cases o1 : x < y
  · by_cases o2 : y < z
    · exact ⟨x, y, z, hz, o1, o2, hno _ (List.Perm.refl _)⟩
    · by_cases o3 : x < z
      · exact ⟨x, z, y, hy, o3, by omega, hno _ (List.Perm.cons _ (List.Perm.swap _ _ _))⟩
      · exact ⟨z, x, y, hy, by omega, o1, hno _ ((List.Perm.swap _ _ _).trans (List.Perm.cons _ (List.Perm.swap _ _ _)))⟩
  · by_cases o2 : x < z
    · exact ⟨y, x, z, hz, by omega, o2, hno _ (List.Perm.swap _ _ _)⟩
    · by_cases o3 : y < z
      · exact ⟨y, z, x, hx, o3, by omega, hno _ ((List.Perm.cons _ (List.Perm.swap _ _ _)).trans (List.Perm.swap _ _ _))⟩
      · exact ⟨z, y, x, hx, by omega, by omega, hno _ (((List.Perm.swap _ _ _).trans (List.Perm.cons _ (List.Perm.swap _ _ _))).trans (List.Perm.swap _ _ _))⟩
end Jr.P

/-! Plain: law k17, outcomes. -/
namespace Lk17
open PySem Jr Jr.P
local macro_rules | `(tactic| walk_at "sx") => `(tactic| simp (disch := omega) only [evE_int, evE_bl, evE_non, evE_str, evE_var, evE_gl, evE_im, evE_ims, evE_bin, evE_neg, evE_not, evE_cmp, evE_chain, evE_and, evE_or, evE_ite, evE_tup, evE_lst, evE_idx, evE_slc, evE_slk, evE_ind, lstT_lst, evE_rev, evE_call, evE_bi, evE_isi, evEs_nil, evEs_cons, evI_of, evI_rng1, evI_rng2, evI_enum, evI_zip, exec_set, exec_setp, exec_par, exec_seti, exec_aug, exec_app, exec_ife, exec_ret, exec_retn, exec_brk, exec_cnt, exec_pass, exec_expr, evC_def, tstT, parT, R.ok_bind, R.ok_out, R.ok_nox, wp_nx, wp_rt, wp_bk, wp_ct, wp_nil, wp_cons, later_nx, later_rt, later_bk, later_ct, later_n, later_r, later_r', later_b', later_c', List.getElem?_cons_zero, List.getElem?_cons_succ, Option.getD_some, Option.getD_none, ofO_some, List.set_cons_zero, List.set_cons_succ, bin_add, bin_sub, mul_r, mul_l, bin_fdiv, bin_mod, pow_18, cmp_eq, cmp_ne, cmp_lt, cmp_le, cmp_gt, cmp_ge, tru_bl, tru_int, neg_int, int_int, int_bl, abs_int, len_lst, len_tup, len_scr, max_int, min_int, gcd_int, list_lst, list_tup, tuple_lst, sum_ints, idx_ints, idx_scr, idx_3, idx_2, rng_1, rng_2, itemsT, bindP_var, bindP_tup, bindP_lst, bindPs_nil, bindPs_cons, divmod_int, lsz_le, lsz_0, lsz_1, lsz_2, lsz_3, lsz_4, lsz_5, lsz_6, lsz_7, lsz_8, if_lt_SZ, if_le_SZ, ints'_snoc, List.length_append, ints'_length, List.length_nil, List.length_cons, Nat.reduceAdd, Bool.false_eq_true, if_true, if_false, reduceIte, intO, ne_eq, not_true_eq_false, not_false_eq_true, decide_true, decide_false, Bool.not_true, Bool.not_false, isi_int_lst, isi_int_tup, isi_int_int, isi_int_bl, isi_int_str, isi_int_non, isi_bool_lst, isi_bool_tup, isi_bool_int, isi_bool_bl, isi_bool_str, isi_bool_non, isi_str_lst, isi_str_tup, isi_str_int, isi_str_bl, isi_str_str, isi_str_non, isi_list_lst, isi_list_tup, isi_list_int, isi_list_bl, isi_list_str, isi_list_non, isi_tuple_lst, isi_tuple_tup, isi_tuple_int, isi_tuple_bl, isi_tuple_str, isi_tuple_non, is_lst, isnot_lst, is_tup, isnot_tup, is_int, isnot_int, is_bl, isnot_bl, is_str, isnot_str, is_non, isnot_non, setAt_ints, aug_add, aug_sub, ints'_get, ite_ok, ite_bl, exec_rai, exec_trx, wq_nx, wq_rt, wq_bk, wq_ct, wq_ex, wq_nil, wq_cons, laterq_nx, laterq_rt, laterq_bk, laterq_ct, laterq_n, laterq_r, laterq_b, laterq_c, caught_rt, caught_nx, idx_p0, idx_p1, R.ex_out, R.ex_bind])
local macro_rules | `(tactic| walk_at "sxs") => `(tactic| simp (disch := omega) only [*, evE_int, evE_bl, evE_non, evE_str, evE_var, evE_gl, evE_im, evE_ims, evE_bin, evE_neg, evE_not, evE_cmp, evE_chain, evE_and, evE_or, evE_ite, evE_tup, evE_lst, evE_idx, evE_slc, evE_slk, evE_ind, lstT_lst, evE_rev, evE_call, evE_bi, evE_isi, evEs_nil, evEs_cons, evI_of, evI_rng1, evI_rng2, evI_enum, evI_zip, exec_set, exec_setp, exec_par, exec_seti, exec_aug, exec_app, exec_ife, exec_ret, exec_retn, exec_brk, exec_cnt, exec_pass, exec_expr, evC_def, tstT, parT, R.ok_bind, R.ok_out, R.ok_nox, wp_nx, wp_rt, wp_bk, wp_ct, wp_nil, wp_cons, later_nx, later_rt, later_bk, later_ct, later_n, later_r, later_r', later_b', later_c', List.getElem?_cons_zero, List.getElem?_cons_succ, Option.getD_some, Option.getD_none, ofO_some, List.set_cons_zero, List.set_cons_succ, bin_add, bin_sub, mul_r, mul_l, bin_fdiv, bin_mod, pow_18, cmp_eq, cmp_ne, cmp_lt, cmp_le, cmp_gt, cmp_ge, tru_bl, tru_int, neg_int, int_int, int_bl, abs_int, len_lst, len_tup, len_scr, max_int, min_int, gcd_int, list_lst, list_tup, tuple_lst, sum_ints, idx_ints, idx_scr, idx_3, idx_2, rng_1, rng_2, itemsT, bindP_var, bindP_tup, bindP_lst, bindPs_nil, bindPs_cons, divmod_int, lsz_le, lsz_0, lsz_1, lsz_2, lsz_3, lsz_4, lsz_5, lsz_6, lsz_7, lsz_8, if_lt_SZ, if_le_SZ, ints'_snoc, List.length_append, ints'_length, List.length_nil, List.length_cons, Nat.reduceAdd, Bool.false_eq_true, if_true, if_false, reduceIte, intO, ne_eq, not_true_eq_false, not_false_eq_true, decide_true, decide_false, Bool.not_true, Bool.not_false, isi_int_lst, isi_int_tup, isi_int_int, isi_int_bl, isi_int_str, isi_int_non, isi_bool_lst, isi_bool_tup, isi_bool_int, isi_bool_bl, isi_bool_str, isi_bool_non, isi_str_lst, isi_str_tup, isi_str_int, isi_str_bl, isi_str_str, isi_str_non, isi_list_lst, isi_list_tup, isi_list_int, isi_list_bl, isi_list_str, isi_list_non, isi_tuple_lst, isi_tuple_tup, isi_tuple_int, isi_tuple_bl, isi_tuple_str, isi_tuple_non, is_lst, isnot_lst, is_tup, isnot_tup, is_int, isnot_int, is_bl, isnot_bl, is_str, isnot_str, is_non, isnot_non, setAt_ints, aug_add, aug_sub, ints'_get, ite_ok, ite_bl, exec_rai, exec_trx, wq_nx, wq_rt, wq_bk, wq_ct, wq_ex, wq_nil, wq_cons, laterq_nx, laterq_rt, laterq_bk, laterq_ct, laterq_n, laterq_r, laterq_b, laterq_c, caught_rt, caught_nx, idx_p0, idx_p1, R.ex_out, R.ex_bind])
/-- who says yes -/
def yesL (vs : List (List Int)) (q : Nat) : List Nat := (List.range vs.length).filter fun j => decide ((vs.getD j []).getD q 0 = 1)
def oq (ws : List Int) (vs : List (List Int)) (q : Nat) : Int := if hvy ws (yesL vs q) then 1 else 0
theorem yesL_lt {vs : List (List Int)} {q : Nat} : ∀ j ∈ yesL vs q, j < vs.length := fun j h => List.mem_range.mp (List.mem_filter.mp h).1
theorem yesL_len {vs : List (List Int)} {q : Nat} : (yesL vs q).length ≤ vs.length := by
  have := List.length_filter_le (fun j => decide ((vs.getD j []).getD q 0 = 1)) (List.range vs.length)
  rw [List.length_range] at this
  exact this
section
variable {k m : Nat} {ws : List Int} {vs : List (List Int)}
theorem yes_sayers_ok (hv : ∀ v ∈ vs, v.length = m) (hl : vs.length ≤ 100) {q : Nat} (hq : q < m) : runF fns gls 2000 (k + 1) 10 [.lst (vs.map rowT), .int (q : Int)] = .ok (nT (yesL vs q)) := by
  refine run_eq (d := f_yes_sayers) rfl rfl ?_
  show wp _ (execs _ _ [some (.lst (vs.map rowT)), some (.int (q : Int)), none, none])
  simp only [f_yes_sayers]
  have en : (enumL (vs.map rowT)) = (List.range vs.length).map fun j : Nat => .tup [.int (j : Int), rowT (vs.getD j [])] := by
    refine List.ext_getElem (by rw [enumL_length, List.length_map, List.length_map, List.length_range]) fun i h1 h2 => ?_
    rw [enumL_length, List.length_map] at h1
    rw [enumL_get, List.getElem_map, List.getElem_map, List.getElem_range, getD_at h1]
  have cp : evE ⟨runF fns gls 2000 k, gls, 2000⟩ (.comp (.tup [.var 2, .var 3]) (.enum (.var 0)) (.cmp .eq (.idx (.var 3) (.var 1)) (.int 1)) (.var 2)) [some (.lst (vs.map rowT)), some (.int (q : Int)), none, none]
      = .ok (.lst (((List.range vs.length).filter fun j => decide ((vs.getD j []).getD q 0 = 1)).map fun j : Nat => .int (j : Int))) :=
    comp_a (xs := List.range vs.length) (fun j : Nat => .tup [.int (j : Int), rowT (vs.getD j [])]) (fun j : Nat => [some (.lst (vs.map rowT)), some (.int (q : Int)), some (.int (j : Int)), some (rowT (vs.getD j []))]) (fun j => decide ((vs.getD j []).getD q 0 = 1)) (fun j : Nat => .int (j : Int)) (by
      walk_at "sx"
      rw [enum_lst, en]) (by rw [List.length_range]; omega) (fun j _ => rfl) (fun j hj => by
      have hj := List.mem_range.mp hj
      have hl : (vs.getD j []).length = m := by rw [getD_at hj]; exact hv _ (List.getElem_mem hj)
      have i1 : idxT (rowT (vs.getD j [])) (.int (q : Int)) = .ok (.int ((vs.getD j []).getD q 0)) := by rw [idx_row (by omega) (by omega), Int.toNat_natCast]
      repeat (first | simp only [i1, R.ok_bind, R.ok_out] | walk_at "sx")) (fun j _ _ => by walk_at "sx")
  repeat (first | simp only [cp, R.ok_bind, R.ok_out] | walk_at "sx")
  rfl
theorem idx0 {vs : List (List Int)} (h0 : 0 < vs.length) (hv : ∀ v ∈ vs, v.length = m) : ∃ v, idxT (.lst (vs.map rowT)) (.int 0) = .ok (rowT v) ∧ biT .len [rowT v] = .ok (.int (m : Nat)) := by
  refine ⟨vs.getD 0 [], idx_vs h0, ?_⟩
  show R.ok (Tr.int ((ints' (vs.getD 0 [])).length : Nat)) = _
  rw [ints'_length, getD_at h0, hv _ (List.getElem_mem h0)]
theorem weighted_ok (hw : ws.length = vs.length) (h0 : 0 < vs.length) (hv : ∀ v ∈ vs, v.length = m) (hm : m ≤ 100) (hl : vs.length ≤ 100) : runF fns gls 2000 (k + 3) 7 [wT ws, .lst (vs.map rowT)] = .ok (rowT ((List.range m).map (oq ws vs))) := by
  refine run_eq (d := f_weighted) rfl rfl ?_
  show wp _ (execs _ _ [some (wT ws), some (.lst (vs.map rowT)), none])
  simp only [f_weighted]
  obtain ⟨v, i1, i2⟩ := idx0 h0 hv
  have cp : evE ⟨runF fns gls 2000 (k + 2), gls, 2000⟩ (.comp (.var 2) (.rng1 (.bi .len (.cons (.idx (.var 1) (.int 0)) (.nil)))) (.nil) (.bi .int (.cons (.call 8 (.cons (.var 0) (.cons (.call 10 (.cons (.var 1) (.cons (.var 2) (.nil)))) (.nil)))) (.nil)))) [some (wT ws), some (.lst (vs.map rowT)), none]
      = .ok (.lst ((List.range m).map fun q => .int (oq ws vs q))) :=
    comp_v (xs := List.range m) (fun q : Nat => Tr.int (q : Int)) (fun q => .int (oq ws vs q)) (by
      repeat (first | simp only [i1, i2, R.ok_bind, R.ok_out] | walk_at "sx")
      rw [rng_nat]) (by rw [List.length_range]; omega) (fun q hq => by
      have hq := List.mem_range.mp hq
      have y : runF fns gls 2000 (k + 2) 10 [.lst (vs.map rowT), .int (q : Int)] = .ok (nT (yesL vs q)) := yes_sayers_ok (k := k + 1) hv hl hq
      have h : runF fns gls 2000 (k + 2) 8 [wT ws, nT (yesL vs q)] = .ok (.bl (hvy ws (yesL vs q))) := heavy_ok (k := k) (fun j hj => by rw [hw]; exact yesL_lt j hj) (by have := yesL_len (vs := vs) (q := q); omega)
      repeat (first | simp only [y, h, R.ok_bind, R.ok_out] | walk_at "sx")
      rfl)
  have tu : biT .tuple [.lst ((List.range m).map fun q => .int (oq ws vs q))] = .ok (rowT ((List.range m).map (oq ws vs))) := by
    show R.ok (Tr.tup _) = _
    unfold rowT ints'
    rw [List.map_map]
    rfl
  repeat (first | simp only [cp, tu, R.ok_bind, R.ok_out] | walk_at "sx")
theorem lweighted_ok (hw : ws.length = vs.length) (h0 : 0 < vs.length) (hv : ∀ v ∈ vs, v.length = m) (hm : m ≤ 100) (hl : vs.length ≤ 100) : runF fns gls 2000 (k + 2) 18 [wT ws, .lst (vs.map rowT)] = .ok (rowT ((List.range m).map (oq ws vs))) := by
  refine run_eq (d := f__law_weighted) rfl rfl ?_
  show wp _ (execs _ _ [some (wT ws), some (.lst (vs.map rowT)), none, none, none])
  simp only [f__law_weighted]
  obtain ⟨v, i1, i2⟩ := idx0 h0 hv
  have lv : (vs.map rowT).length = vs.length := List.length_map _
  walk_at "sx"
  refine wp_for (xs := rngL 0 (m : Int)) (by repeat (first | simp only [i1, i2, R.ok_bind, R.ok_out] | walk_at "sx")) (fun i ρ => ∃ u3, ρ = [some (wT ws), some (.lst (vs.map rowT)), some (.lst (ints' ((List.range i).map (oq ws vs)))), u3, none]) ⟨_, rfl⟩ (fun i hi ρ hI => ?_) (fun ρ hI => ?_)
  · obtain ⟨u3, rfl⟩ := hI
    rw [rngL_length] at hi
    simp only [rngL_get, Int.zero_add]
    have hi2 : i < m := by omega
    have cp : evE ⟨runF fns gls 2000 (k + 1), gls, 2000⟩ (.comp (.var 4) (.rng1 (.bi .len (.cons (.var 1) (.nil)))) (.cmp .eq (.idx (.idx (.var 1) (.var 4)) (.var 3)) (.int 1)) (.var 4)) [some (wT ws), some (.lst (vs.map rowT)), some (.lst (ints' ((List.range i).map (oq ws vs)))), some (.int (i : Int)), none]
        = .ok (.lst (((List.range vs.length).filter fun j => decide ((vs.getD j []).getD i 0 = 1)).map fun j : Nat => .int (j : Int))) :=
      comp_vf (xs := List.range vs.length) (fun j : Nat => Tr.int (j : Int)) (fun j => decide ((vs.getD j []).getD i 0 = 1)) (fun j : Nat => .int (j : Int)) (by
        repeat (first | simp only [lv, R.ok_bind, R.ok_out] | walk_at "sx")
        rw [rng_nat]) (by rw [List.length_range]; omega) (fun j hj => by
        have hj := List.mem_range.mp hj
        have hlj : (vs.getD j []).length = m := by rw [getD_at hj]; exact hv _ (List.getElem_mem hj)
        have x1 := idx_vs hj
        have x2 : idxT (rowT (vs.getD j [])) (.int (i : Int)) = .ok (.int ((vs.getD j []).getD i 0)) := by rw [idx_row (by omega) (by omega), Int.toNat_natCast]
        repeat (first | simp only [x1, x2, R.ok_bind, R.ok_out] | walk_at "sx")) (fun j _ _ => by walk_at "sx")
    have h : runF fns gls 2000 (k + 1) 19 [wT ws, .lst (((List.range vs.length).filter fun j => decide ((vs.getD j []).getD i 0 = 1)).map fun j : Nat => .int (j : Int))] = .ok (.bl (hvy ws (yesL vs i))) := lheavy_ok (k := k) (S := yesL vs i) (fun j hj => by rw [hw]; exact yesL_lt j hj) (by have := yesL_len (vs := vs) (q := i); omega)
    rw [List.range_succ, List.map_append, List.map_cons, List.map_nil]
    have hL : ((List.range i).map (oq ws vs)).length = i := by rw [List.length_map, List.length_range]
    have ew : (if hvy ws (yesL vs i) = true then (1 : Int) else 0) = oq ws vs i := rfl
    generalize (List.range i).map (oq ws vs) = L at hL cp ⊢
    repeat (first | simp only [cp, h, ew, R.ok_bind, R.ok_out] | walk_at "sx")
    exact ⟨_, rfl⟩
  · obtain ⟨u3, rfl⟩ := hI
    rw [rngL_length, show ((m : Int) - 0).toNat = m by omega]
    walk_at "sx"
    rfl
end
/-! ### more yes, not less weight -/
theorem wsum_mono {ws : List Int} (hw : ∀ w ∈ ws, 0 ≤ w) (p q : Nat → Bool) : ∀ L : List Nat, (∀ j ∈ L, j < ws.length) → (∀ j ∈ L, p j = true → q j = true) → wsum ws (L.filter p) ≤ wsum ws (L.filter q)
  | [], _, _ => Int.le_refl _
  | j :: L, h1, h2 => by
    have ih := wsum_mono hw p q L (fun i hi => h1 i (List.mem_cons_of_mem _ hi)) (fun i hi => h2 i (List.mem_cons_of_mem _ hi))
    have hj : 0 ≤ ws.getD j 0 := by
      have := h1 j List.mem_cons_self
      rw [getD_at this]
      exact hw _ (List.getElem_mem this)
    rw [List.filter_cons, List.filter_cons]
    by_cases a : p j = true
    · rw [if_pos a, if_pos (h2 j List.mem_cons_self a)]
      show ws.getD j 0 + wsum ws (L.filter p) ≤ ws.getD j 0 + wsum ws (L.filter q)
      omega
    · rw [if_neg a]
      by_cases b : q j = true
      · rw [if_pos b]
        show wsum ws (L.filter p) ≤ ws.getD j 0 + wsum ws (L.filter q)
        omega
      · rw [if_neg b]
        exact ih
theorem oq_mono {ws : List Int} {vs us : List (List Int)} (hw : ∀ w ∈ ws, 0 ≤ w) (hl : ws.length = vs.length) (hl2 : us.length = vs.length) {q : Nat} (h : ∀ j, j < vs.length → (vs.getD j []).getD q 0 = 1 → (us.getD j []).getD q 0 = 1) : oq ws vs q ≤ oq ws us q := by
  have := wsum_mono hw (fun j => decide ((vs.getD j []).getD q 0 = 1)) (fun j => decide ((us.getD j []).getD q 0 = 1)) (List.range vs.length) (fun j hj => by rw [hl]; exact List.mem_range.mp hj) fun j hj e => decide_eq_true (h j (List.mem_range.mp hj) (of_decide_eq_true e))
  unfold oq hvy yesL
  rw [hl2]
  by_cases a : 2 * wsum ws ((List.range vs.length).filter fun j => decide ((vs.getD j []).getD q 0 = 1)) > ws.sum
  · rw [if_pos (decide_eq_true a), if_pos (decide_eq_true (by omega))]
    exact Int.le_refl _
  · rw [if_neg (by simpa using a)]
    split <;> omega
/-- all weights alike: what the most say -/
theorem oq_alike {m : Nat} {vs : List (List Int)} (hv : ∀ v ∈ vs, IsRow m v) {q : Nat} (hq : q < m) : oq (List.replicate vs.length 3) vs q = mo vs q := by
  have h1 : wsum (List.replicate vs.length 3) (yesL vs q) = 3 * yes vs q := by
    have gen : ∀ (us : List (List Int)) (n : Nat) (ws : List Int), (∀ v ∈ us, IsRow m v) → (∀ j, j < us.length → ws.getD (n + j) 0 = 3) → (((List.range us.length).filter fun j => decide ((us.getD j []).getD q 0 = 1)).map fun j => ws.getD (n + j) 0).sum = 3 * yes us q := by
      intro us
      induction us with
      | nil => intro n ws _ _; rfl
      | cons u us ih =>
        intro n ws h1 h2
        have ih := ih (n + 1) ws (fun v hv => h1 v (List.mem_cons_of_mem _ hv)) fun j hj => by
          have := h2 (j + 1) (by rw [List.length_cons]; omega)
          rwa [show n + (j + 1) = n + 1 + j by omega] at this
        rw [yes_cons, List.length_cons, List.range_succ_eq_map, List.filter_cons, List.filter_map]
        have e : ((fun j => decide (((u :: us).getD j []).getD q 0 = 1)) ∘ Nat.succ) = fun j => decide ((us.getD j []).getD q 0 = 1) := by
          funext j
          rfl
        rw [e]
        have e2 : ∀ L : List Nat, ((L.map Nat.succ).map fun j => ws.getD (n + j) 0) = L.map fun j => ws.getD (n + 1 + j) 0 := fun L => by
          rw [List.map_map]
          refine List.map_congr_left fun j _ => ?_
          show ws.getD (n + (j + 1)) 0 = _
          rw [show n + (j + 1) = n + 1 + j by omega]
        have hu := h1 u List.mem_cons_self
        have hu01 : u.getD q 0 = 0 ∨ u.getD q 0 = 1 := by
          have : q < u.length := by rw [hu.1]; exact hq
          rw [getD_at this]
          exact hu.2 _ (List.getElem_mem this)
        have e0 : ((u :: us).getD 0 []) = u := rfl
        rw [e0]
        rcases hu01 with z | z
        · rw [z, if_neg (by decide), e2, ih]
          omega
        · rw [z, if_pos (by decide), List.map_cons, List.sum_cons, e2, ih, h2 0 (by rw [List.length_cons]; omega)]
          omega
    have := gen vs 0 (List.replicate vs.length 3) hv fun j hj => by
      rw [Nat.zero_add, getD_at (by rw [List.length_replicate]; exact hj), List.getElem_replicate]
    simp only [Nat.zero_add] at this
    exact this
  have h2 : (List.replicate vs.length (3 : Int)).sum = 3 * vs.length := by
    generalize vs.length = n
    induction n with
    | zero => rfl
    | succ n ih =>
      rw [List.replicate_succ, List.sum_cons, ih]
      omega
  unfold oq mo hvy
  rw [h1, h2]
  by_cases a : (vs.length : Int) < 2 * yes vs q
  · rw [if_pos (decide_eq_true (by omega)), if_pos a]
  · rw [if_neg (by simp; omega), if_neg a]
end Lk17

/-! Plain: law k17, what the law draws; what are weights. -/
namespace Lk17
open PySem Jr Jr.P
local macro_rules | `(tactic| walk_at "sx") => `(tactic| simp (disch := omega) only [evE_int, evE_bl, evE_non, evE_str, evE_var, evE_gl, evE_im, evE_ims, evE_bin, evE_neg, evE_not, evE_cmp, evE_chain, evE_and, evE_or, evE_ite, evE_tup, evE_lst, evE_idx, evE_slc, evE_slk, evE_ind, lstT_lst, evE_rev, evE_call, evE_bi, evE_isi, evEs_nil, evEs_cons, evI_of, evI_rng1, evI_rng2, evI_enum, evI_zip, exec_set, exec_setp, exec_par, exec_seti, exec_aug, exec_app, exec_ife, exec_ret, exec_retn, exec_brk, exec_cnt, exec_pass, exec_expr, evC_def, tstT, parT, R.ok_bind, R.ok_out, R.ok_nox, wp_nx, wp_rt, wp_bk, wp_ct, wp_nil, wp_cons, later_nx, later_rt, later_bk, later_ct, later_n, later_r, later_r', later_b', later_c', List.getElem?_cons_zero, List.getElem?_cons_succ, Option.getD_some, Option.getD_none, ofO_some, List.set_cons_zero, List.set_cons_succ, bin_add, bin_sub, mul_r, mul_l, bin_fdiv, bin_mod, pow_18, cmp_eq, cmp_ne, cmp_lt, cmp_le, cmp_gt, cmp_ge, tru_bl, tru_int, neg_int, int_int, int_bl, abs_int, len_lst, len_tup, len_scr, max_int, min_int, gcd_int, list_lst, list_tup, tuple_lst, sum_ints, idx_ints, idx_scr, idx_3, idx_2, rng_1, rng_2, itemsT, bindP_var, bindP_tup, bindP_lst, bindPs_nil, bindPs_cons, divmod_int, lsz_le, lsz_0, lsz_1, lsz_2, lsz_3, lsz_4, lsz_5, lsz_6, lsz_7, lsz_8, if_lt_SZ, if_le_SZ, ints'_snoc, List.length_append, ints'_length, List.length_nil, List.length_cons, Nat.reduceAdd, Bool.false_eq_true, if_true, if_false, reduceIte, intO, ne_eq, not_true_eq_false, not_false_eq_true, decide_true, decide_false, Bool.not_true, Bool.not_false, isi_int_lst, isi_int_tup, isi_int_int, isi_int_bl, isi_int_str, isi_int_non, isi_bool_lst, isi_bool_tup, isi_bool_int, isi_bool_bl, isi_bool_str, isi_bool_non, isi_str_lst, isi_str_tup, isi_str_int, isi_str_bl, isi_str_str, isi_str_non, isi_list_lst, isi_list_tup, isi_list_int, isi_list_bl, isi_list_str, isi_list_non, isi_tuple_lst, isi_tuple_tup, isi_tuple_int, isi_tuple_bl, isi_tuple_str, isi_tuple_non, is_lst, isnot_lst, is_tup, isnot_tup, is_int, isnot_int, is_bl, isnot_bl, is_str, isnot_str, is_non, isnot_non, setAt_ints, aug_add, aug_sub, ints'_get, ite_ok, ite_bl, exec_rai, exec_trx, wq_nx, wq_rt, wq_bk, wq_ct, wq_ex, wq_nil, wq_cons, laterq_nx, laterq_rt, laterq_bk, laterq_ct, laterq_n, laterq_r, laterq_b, laterq_c, caught_rt, caught_nx, idx_p0, idx_p1, R.ex_out, R.ex_bind])
local macro_rules | `(tactic| walk_at "sxs") => `(tactic| simp (disch := omega) only [*, evE_int, evE_bl, evE_non, evE_str, evE_var, evE_gl, evE_im, evE_ims, evE_bin, evE_neg, evE_not, evE_cmp, evE_chain, evE_and, evE_or, evE_ite, evE_tup, evE_lst, evE_idx, evE_slc, evE_slk, evE_ind, lstT_lst, evE_rev, evE_call, evE_bi, evE_isi, evEs_nil, evEs_cons, evI_of, evI_rng1, evI_rng2, evI_enum, evI_zip, exec_set, exec_setp, exec_par, exec_seti, exec_aug, exec_app, exec_ife, exec_ret, exec_retn, exec_brk, exec_cnt, exec_pass, exec_expr, evC_def, tstT, parT, R.ok_bind, R.ok_out, R.ok_nox, wp_nx, wp_rt, wp_bk, wp_ct, wp_nil, wp_cons, later_nx, later_rt, later_bk, later_ct, later_n, later_r, later_r', later_b', later_c', List.getElem?_cons_zero, List.getElem?_cons_succ, Option.getD_some, Option.getD_none, ofO_some, List.set_cons_zero, List.set_cons_succ, bin_add, bin_sub, mul_r, mul_l, bin_fdiv, bin_mod, pow_18, cmp_eq, cmp_ne, cmp_lt, cmp_le, cmp_gt, cmp_ge, tru_bl, tru_int, neg_int, int_int, int_bl, abs_int, len_lst, len_tup, len_scr, max_int, min_int, gcd_int, list_lst, list_tup, tuple_lst, sum_ints, idx_ints, idx_scr, idx_3, idx_2, rng_1, rng_2, itemsT, bindP_var, bindP_tup, bindP_lst, bindPs_nil, bindPs_cons, divmod_int, lsz_le, lsz_0, lsz_1, lsz_2, lsz_3, lsz_4, lsz_5, lsz_6, lsz_7, lsz_8, if_lt_SZ, if_le_SZ, ints'_snoc, List.length_append, ints'_length, List.length_nil, List.length_cons, Nat.reduceAdd, Bool.false_eq_true, if_true, if_false, reduceIte, intO, ne_eq, not_true_eq_false, not_false_eq_true, decide_true, decide_false, Bool.not_true, Bool.not_false, isi_int_lst, isi_int_tup, isi_int_int, isi_int_bl, isi_int_str, isi_int_non, isi_bool_lst, isi_bool_tup, isi_bool_int, isi_bool_bl, isi_bool_str, isi_bool_non, isi_str_lst, isi_str_tup, isi_str_int, isi_str_bl, isi_str_str, isi_str_non, isi_list_lst, isi_list_tup, isi_list_int, isi_list_bl, isi_list_str, isi_list_non, isi_tuple_lst, isi_tuple_tup, isi_tuple_int, isi_tuple_bl, isi_tuple_str, isi_tuple_non, is_lst, isnot_lst, is_tup, isnot_tup, is_int, isnot_int, is_bl, isnot_bl, is_str, isnot_str, is_non, isnot_non, setAt_ints, aug_add, aug_sub, ints'_get, ite_ok, ite_bl, exec_rai, exec_trx, wq_nx, wq_rt, wq_bk, wq_ct, wq_ex, wq_nil, wq_cons, laterq_nx, laterq_rt, laterq_bk, laterq_ct, laterq_n, laterq_r, laterq_b, laterq_c, caught_rt, caught_nx, idx_p0, idx_p1, R.ex_out, R.ex_bind])
def wordS (ts : List Tr) : Str := if decide (1 ≤ ts.length) && decide (ts.length ≤ 9) then (if ts.all (fun t => withT t 0 1000) = false then "weight" else if (ts.map numT).sum % 2 = 0 then "weight" else "good") else "count"
def chkR (ts : List Tr) : R Tr := if decide (1 ≤ ts.length) && decide (ts.length ≤ 9) then (if ts.all (fun t => withT t 0 1000) = false then .ex "InvalidWeight" else if (ts.map numT).sum % 2 = 0 then .ex "InvalidWeight" else .ok .non) else .ex "WrongCount"
def AskL (ts : List Tr) : Prop := ts.length ≤ 1000 ∧ ∀ t ∈ ts, nscT t = true
theorem all_f {α : Type} {xs : List α} {q : α → Bool} {i : Nat} (hi : i < xs.length) (h : q xs[i] = false) : xs.all q = false := by
  rw [List.all_eq_false]
  exact ⟨xs[i], List.getElem_mem hi, by rw [h]; simp⟩
theorem all_t {α : Type} {xs : List α} {q : α → Bool} (h : ∀ (i : Nat) (hi : i < xs.length), q xs[i] = true) : xs.all q = true := List.all_eq_true.mpr fun x hx => by
  obtain ⟨i, hi, rfl⟩ := List.getElem_of_mem hx
  exact h i hi
theorem wth_int {t : Tr} {a b : Int} (h : withT t a b = true) : t = .int (numT t) := by
  unfold withT at h
  cases t <;> first
    | rfl
    | cases h
theorem wth_ints {ts : List Tr} {a b : Int} (h : (ts.all fun x => withT x a b) = true) : ts = ints' (ts.map numT) := by
  induction ts with
  | nil => rfl
  | cons t ts ih =>
    rw [List.all_cons, Bool.and_eq_true] at h
    rw [List.map_cons]
    show t :: ts = Tr.int (numT t) :: ints' (ts.map numT)
    rw [← ih h.2, ← wth_int h.1]
theorem g0 : gls[0]? = some (.int 9) := rfl
theorem g1 : gls[1]? = some (.int 1000) := rfl
section
variable {k : Nat}
theorem check_q {ts : List Tr} (ha : AskL ts) : runF fns gls 2000 (k + 3) 12 [.lst ts] = chkR ts := by
  refine run_q (fun r => r = chkR ts) (d := f_check_weights) rfl rfl ?_
  show wq _ _ (execs _ _ [some (.lst ts), none])
  simp only [f_check_weights]
  have hw : ∀ (x : Tr) (a b : Int), nscT x = true → runF fns gls 2000 (k + 2) 13 [x, .int a, .int b] = .ok (.bl (withT x a b)) := fun x a b hx => within_any (k := k) e_within e_whole x hx a b
  unfold chkR
  by_cases z1 : 1 ≤ ts.length
  · have d1 : decide ((1 : Int) ≤ ts.length) = true := decide_eq_true (by omega)
    by_cases z2 : ts.length ≤ 9
    · have d2 : decide ((ts.length : Int) ≤ 9) = true := decide_eq_true (by omega)
      rw [if_pos (by rw [decide_eq_true z1, decide_eq_true z2]; rfl)]
      repeat (first | simp only [evE_chain, g0, d1, d2, ofO_some, Bool.not_true, Bool.false_eq_true, if_true, if_false, R.ok_bind, R.ok_out] | walk_at "sx")
      refine wq_cutL (fun ρ => ts.all (fun t => withT t 0 1000) = true ∧ ∃ u, ρ = [some (.lst ts), u]) ?_ ?_
      · refine wq_for (xs := ts) (by walk_at "sx") (fun i ρ => (∀ (j : Nat) (hj : j < ts.length), j < i → withT ts[j] 0 1000 = true) ∧ ∃ u, ρ = [some (.lst ts), u]) ⟨fun j _ hj => absurd hj (Nat.not_lt_zero _), _, rfl⟩ (fun i hi ρ hI => ?_) (fun ρ hI => ?_)
        · obtain ⟨hj, u, rfl⟩ := hI
          have q := hw ts[i] 0 1000 (ha.2 _ (List.getElem_mem hi))
          have no : withT ts[i] 0 1000 = false → ts.all (fun t => withT t 0 1000) = false := fun h => all_f (q := fun t => withT t 0 1000) hi h
          have ys : withT ts[i] 0 1000 = true → ∀ (j : Nat) (hj : j < ts.length), j < i + 1 → withT ts[j] 0 1000 = true := fun h j hj1 hj2 => by
            rcases Nat.lt_or_ge j i with h' | h'
            · exact hj j hj1 h'
            · have : j = i := by omega
              subst this
              exact h
          generalize ts[i] = t at q no ys
          cases hb : withT t 0 1000 with
          | true =>
            rw [hb] at q
            repeat (first | simp only [g1, q, ofO_some, R.ok_bind, R.ok_out] | walk_at "sx")
            exact ⟨ys hb, _, rfl⟩
          | false =>
            rw [hb] at q
            repeat (first | simp only [g1, q, ofO_some, R.ok_bind, R.ok_out] | walk_at "sx")
            try rw [wq_ex]
            rw [if_pos (no hb)]
        · obtain ⟨hj, u, rfl⟩ := hI
          walk_at "sx"
          exact ⟨all_t (q := fun t => withT t 0 1000) fun i hi => hj i hi hi, _, rfl⟩
      · rintro ρ ⟨hall, u, rfl⟩
        rw [if_neg (by rw [hall]; simp)]
        have su : biT .sum [.lst ts] = .ok (.int (ts.map numT).sum) := by
          rw [wth_ints hall, sum_ints]
          refine congrArg (fun z => R.ok (Tr.int z)) ?_
          rw [← wth_ints hall]
        by_cases h : (ts.map numT).sum % 2 = 0
        · have dd := decide_eq_true h
          rw [if_pos h]
          repeat (first | simp only [su, dd, R.ok_bind, R.ok_out] | walk_at "sx")
          try rfl
        · have dd := decide_eq_false h
          rw [if_neg h]
          repeat (first | simp only [su, dd, R.ok_bind, R.ok_out] | walk_at "sx")
          try rfl
    · have d2 : decide ((ts.length : Int) ≤ 9) = false := decide_eq_false (by omega)
      rw [if_neg (by rw [decide_eq_false z2]; simp)]
      repeat (first | simp only [evE_chain, g0, d1, d2, ofO_some, Bool.not_true, Bool.not_false, Bool.false_eq_true, if_true, if_false, R.ok_bind, R.ok_out] | walk_at "sx")
      try rfl
  · have d1 : decide ((1 : Int) ≤ ts.length) = false := decide_eq_false (by omega)
    rw [if_neg (by rw [decide_eq_false z1]; simp)]
    repeat (first | simp only [evE_chain, g0, d1, ofO_some, Bool.not_true, Bool.not_false, Bool.false_eq_true, if_true, if_false, R.ok_bind, R.ok_out] | walk_at "sx")
    try rfl
theorem checked_ok {ts : List Tr} (ha : AskL ts) : runF fns gls 2000 (k + 4) 11 [.lst ts] = .ok (.str (wordS ts)) := by
  refine run_eq (d := f__law_checked) rfl rfl ?_
  show wp _ (execs _ _ [some (.lst ts), none])
  simp only [f__law_checked]
  have q := check_q (k := k) ha
  rw [wp_cons, trx_ret]
  unfold chkR at q
  unfold wordS
  by_cases h0 : (decide (1 ≤ ts.length) && decide (ts.length ≤ 9)) = true
  · rw [if_pos h0] at q ⊢
    by_cases h1 : ts.all (fun t => withT t 0 1000) = false
    · rw [if_pos h1] at q ⊢
      repeat (first | simp only [q, R.ex_bind, R.ex_out] | walk_at "sx")
      exact ⟨rfl⟩
    · rw [if_neg h1] at q ⊢
      by_cases h2 : (ts.map numT).sum % 2 = 0
      · rw [if_pos h2] at q ⊢
        repeat (first | simp only [q, R.ex_bind, R.ex_out] | walk_at "sx")
        exact ⟨rfl⟩
      · rw [if_neg h2] at q ⊢
        have k1 : cmpT .is .non .non = .ok true := rfl
        have ix : idxT (.lst [.str "other", .str "good"]) (.int 1) = .ok (.str "good") := rfl
        repeat (first | simp only [q, k1, ix, if_true, R.ok_bind, R.ok_out] | walk_at "sx")
        try exact ⟨rfl⟩
  · rw [if_neg h0] at q ⊢
    repeat (first | simp only [q, R.ex_bind, R.ex_out] | walk_at "sx")
    exact ⟨rfl⟩
theorem word_ok {ts : List Tr} (ha : AskL ts) : runF fns gls 2000 (k + 1) 15 [.lst ts] = .ok (.str (wordS ts)) := by
  refine run_eq (d := f__law_word) rfl rfl ?_
  show wp _ (execs _ _ [some (.lst ts), none])
  simp only [f__law_word]
  unfold wordS
  by_cases z1 : ts.length < 1
  · have d1 : decide ((ts.length : Int) < 1) = true := decide_eq_true (by omega)
    rw [if_neg (by rw [decide_eq_false (show ¬ 1 ≤ ts.length by omega)]; simp)]
    repeat (first | simp only [d1, R.ok_bind, R.ok_out] | walk_at "sx")
  · have d1 : decide ((ts.length : Int) < 1) = false := decide_eq_false (by omega)
    by_cases z2 : ts.length > 9
    · have d2 : decide ((ts.length : Int) > 9) = true := decide_eq_true (by omega)
      rw [if_neg (by rw [decide_eq_false (show ¬ ts.length ≤ 9 by omega)]; simp)]
      repeat (first | simp only [d1, d2, R.ok_bind, R.ok_out] | walk_at "sx")
    · have d2 : decide ((ts.length : Int) > 9) = false := decide_eq_false (by omega)
      rw [if_pos (by rw [decide_eq_true (show 1 ≤ ts.length by omega), decide_eq_true (show ts.length ≤ 9 by omega)]; rfl)]
      repeat (first | simp only [d1, d2, R.ok_bind, R.ok_out] | walk_at "sx")
      refine wp_cutL (fun ρ => ts.all (fun t => withT t 0 1000) = true ∧ ∃ u, ρ = [some (.lst ts), u]) ?_ ?_
      · refine wp_for (xs := ts) (by walk_at "sx") (fun i ρ => (∀ (j : Nat) (hj : j < ts.length), j < i → withT ts[j] 0 1000 = true) ∧ ∃ u, ρ = [some (.lst ts), u]) ⟨fun j _ hj => absurd hj (Nat.not_lt_zero _), _, rfl⟩ (fun i hi ρ hI => ?_) (fun ρ hI => ?_)
        · obtain ⟨hj, u, rfl⟩ := hI
          have hn := ha.2 _ (List.getElem_mem hi)
          have no : withT ts[i] 0 1000 = false → Tr.str "weight" = Tr.str (if ts.all (fun t => withT t 0 1000) = false then "weight" else if (ts.map numT).sum % 2 = 0 then "weight" else "good") := fun h => by
            rw [if_pos (all_f (q := fun t => withT t 0 1000) hi h)]
          have ys : withT ts[i] 0 1000 = true → ∀ (j : Nat) (hj : j < ts.length), j < i + 1 → withT ts[j] 0 1000 = true := fun h j hj1 hj2 => by
            rcases Nat.lt_or_ge j i with h' | h'
            · exact hj j hj1 h'
            · have : j = i := by omega
              subst this
              exact h
          generalize ts[i] = t at no ys hn
          cases t with
          | scr ns => cases hn
          | int n =>
            have cb : withT (.int n) 0 1000 = (decide (0 ≤ n) && decide (n ≤ 1000)) := rfl
            by_cases c1 : n < 0
            · have e1 := decide_eq_true c1
              repeat (first | simp only [e1, R.ok_bind, R.ok_out] | walk_at "sx")
              refine no ?_
              rw [cb, decide_eq_false (show ¬ 0 ≤ n by omega)]
              rfl
            · have e1 := decide_eq_false c1
              by_cases c2 : n > 1000
              · have e2 := decide_eq_true c2
                repeat (first | simp only [e1, e2, R.ok_bind, R.ok_out] | walk_at "sx")
                refine no ?_
                rw [cb, decide_eq_false (show ¬ n ≤ 1000 by omega)]
                simp
              · have e2 := decide_eq_false c2
                repeat (first | simp only [e1, e2, R.ok_bind, R.ok_out] | walk_at "sx")
                refine ⟨ys ?_, _, rfl⟩
                rw [cb, decide_eq_true (show 0 ≤ n by omega), decide_eq_true (show n ≤ 1000 by omega)]
                rfl
          | _ =>
            walk_at "sx"
            exact no rfl
        · obtain ⟨hj, u, rfl⟩ := hI
          walk_at "sx"
          exact ⟨all_t (q := fun t => withT t 0 1000) fun i hi => hj i hi hi, _, rfl⟩
      · rintro ρ ⟨hall, u, rfl⟩
        rw [if_neg (by rw [hall]; simp)]
        have su : biT .sum [.lst ts] = .ok (.int (ts.map numT).sum) := by
          rw [wth_ints hall, sum_ints]
          refine congrArg (fun z => R.ok (Tr.int z)) ?_
          rw [← wth_ints hall]
        have m0 := Int.emod_nonneg (ts.map numT).sum (show (2 : Int) ≠ 0 by omega)
        have m1 := Int.emod_lt_of_pos (ts.map numT).sum (show (0 : Int) < 2 by omega)
        by_cases h : (ts.map numT).sum % 2 = 0
        · rw [if_pos h]
          have ix : idxT (.lst [.str "weight", .str "good"]) (.int 0) = .ok (.str "weight") := rfl
          repeat (first | simp only [su, h, ix, R.ok_bind, R.ok_out] | walk_at "sx")
        · have h1 : (ts.map numT).sum % 2 = 1 := by omega
          rw [if_neg h]
          have ix : idxT (.lst [.str "weight", .str "good"]) (.int 1) = .ok (.str "good") := rfl
          repeat (first | simp only [su, h1, ix, R.ok_bind, R.ok_out] | walk_at "sx")
variable {T : Tr} {d : Int → Int} (hd : ∀ i, 0 ≤ d i ∧ d i < 5040) (hT : ∀ i : Int, 0 ≤ i → i < 60 → idxT T (.int i) = .ok (.int (d i))) (hTl : biT .len [T] = .ok (.int 60))
include hd hT
theorem weights_ok : ∃ ws : List Int, (1 ≤ ws.length ∧ ws.length ≤ 9) ∧ (∀ w ∈ ws, 0 ≤ w ∧ w ≤ 1000) ∧ runF fns gls 2000 (k + 1) 2 [T, .int 0, .int 9] = .ok (wT ws) := by
  obtain ⟨t, ht, ws, g1, g2, rfl⟩ := run_of (fs := fns) (gl := gls) (fuel := 2000) (k := k) (f := 2) (ts := [T, .int 0, .int 9]) (d := f__law_weights) (fun t => ∃ ws : List Int, (1 ≤ ws.length ∧ ws.length ≤ 9) ∧ (∀ w ∈ ws, 0 ≤ w ∧ w ≤ 1000) ∧ t = wT ws) rfl rfl (by
    show wp _ (execs _ _ [some T, some (.int 0), some (.int 9), none, none, none, none])
    simp only [f__law_weights]
    have t0 := hT 0 (by omega) (by omega)
    have t10 := hT (0 + 10) (by omega) (by omega)
    have t11 := hT (0 + 11) (by omega) (by omega)
    have e0 := Int.emod_nonneg (d 0) (show (9 : Int) ≠ 0 by omega)
    have e1 := Int.emod_lt_of_pos (d 0) (show (0 : Int) < 9 by omega)
    obtain ⟨n, hn⟩ := Int.eq_ofNat_of_zero_le (show 0 ≤ 1 + d 0 % 9 by omega)
    obtain ⟨q, q1, q2, hq⟩ : ∃ q : Int, 2 ≤ q ∧ q ≤ 1001 ∧ idxT (.lst [.int 2, .int 5, .int 20, .int 1001]) (.int (d (0 + 10) % 4)) = .ok (.int q) := by
      have a1 := Int.emod_nonneg (d (0 + 10)) (show (4 : Int) ≠ 0 by omega)
      have a2 := Int.emod_lt_of_pos (d (0 + 10)) (show (0 : Int) < 4 by omega)
      have : d (0 + 10) % 4 = 0 ∨ d (0 + 10) % 4 = 1 ∨ d (0 + 10) % 4 = 2 ∨ d (0 + 10) % 4 = 3 := by omega
      rcases this with e | e | e | e <;> rw [e] <;> exact ⟨_, by omega, by omega, rfl⟩
    obtain ⟨f, hf⟩ : ∃ f : Nat → Int, f = fun (j : Nat) => d (0 + 1 + (j : Int)) % q := ⟨_, rfl⟩
    have cp : evE ⟨runF fns gls 2000 k, gls, 2000⟩ (.comp (.var 6) (.rng1 (.var 3)) (.nil) (.bin .mod (.idx (.var 0) (.bin .add (.bin .add (.var 1) (.int 1)) (.var 6))) (.idx (.lst (.cons (.int 2) (.cons (.int 5) (.cons (.int 20) (.cons (.int 1001) (.nil)))))) (.bin .mod (.idx (.var 0) (.bin .add (.var 1) (.int 10))) (.int 4))))) [some T, some (.int 0), some (.int 9), some (.int (n : Int)), none, none, none]
        = .ok (wT ((List.range n).map f)) := by
      have := comp_v (c := ⟨runF fns gls 2000 k, gls, 2000⟩) (v := 6) (it := .rng1 (.var 3)) (b := .bin .mod (.idx (.var 0) (.bin .add (.bin .add (.var 1) (.int 1)) (.var 6))) (.idx (.lst (.cons (.int 2) (.cons (.int 5) (.cons (.int 20) (.cons (.int 1001) (.nil)))))) (.bin .mod (.idx (.var 0) (.bin .add (.var 1) (.int 10))) (.int 4)))) (ρ := [some T, some (.int 0), some (.int 9), some (.int (n : Int)), none, none, none]) (xs := List.range n) (fun j : Nat => Tr.int (j : Int)) (fun j => Tr.int (f j)) (by
        walk_at "sx"
        rw [rng_nat]) (by rw [List.length_range]; omega) (fun j hj => by
        have hj := List.mem_range.mp hj
        have tj := hT (0 + 1 + (j : Int)) (by omega) (by omega)
        rw [hf]
        repeat (first | simp only [tj, t10, hq, R.ok_bind, R.ok_out] | walk_at "sx"))
      rw [this]
      unfold wT ints'
      rw [List.map_map]
      rfl
    have hfb : ∀ w ∈ (List.range n).map f, 0 ≤ w ∧ w ≤ 1000 := fun w hw => by
      obtain ⟨j, _, rfl⟩ := List.mem_map.mp hw
      rw [hf]
      have a1 := Int.emod_nonneg (d (0 + 1 + (j : Int))) (show q ≠ 0 by omega)
      have a2 := Int.emod_lt_of_pos (d (0 + 1 + (j : Int))) (show 0 < q by omega)
      show 0 ≤ d (0 + 1 + (j : Int)) % q ∧ d (0 + 1 + (j : Int)) % q ≤ 1000
      omega
    have hfl : ((List.range n).map f).length = n := by rw [List.length_map, List.length_range]
    generalize (List.range n).map f = W at cp hfb hfl
    have su : biT .sum [wT W] = .ok (.int W.sum) := sum_ints
    repeat (first | simp only [t0, hn, cp, su, R.ok_bind, R.ok_out] | walk_at "sx")
    by_cases hs : W.sum % 2 = 0
    · have dd := decide_eq_true hs
      have s0 := Int.emod_nonneg (d (0 + 11)) (show (n : Int) ≠ 0 by omega)
      have s1 := Int.emod_lt_of_pos (d (0 + 11)) (show 0 < (n : Int) by omega)
      obtain ⟨sp, hsp⟩ := Int.eq_ofNat_of_zero_le s0
      have hsp2 : sp < W.length := by omega
      have ix : idxT (wT W) (.int (sp : Int)) = .ok (.int W[sp]) := by
        rw [idx_w hsp2, getD_at hsp2]
      have hb := hfb _ (List.getElem_mem hsp2)
      obtain ⟨v, hv⟩ : ∃ v, v = W[sp] + pick2 (if decide (W[sp] = 1000) = true then 1 else 0) 1 (-1) := ⟨_, rfl⟩
      have hvb : 0 ≤ v ∧ v ≤ 1000 := by
        rw [hv]
        unfold pick2
        by_cases h : W[sp] = 1000
        · rw [decide_eq_true h]
          simp
          omega
        · rw [decide_eq_false h]
          simp
          omega
      have se : setAt (ints' W) (sp : Int) (.int v) = some (ints' (W.set sp v)) := by
        unfold setAt
        rw [if_pos (by omega), if_pos (by rw [ints'_length]; omega), Int.toNat_natCast]
        unfold ints'
        rw [List.map_set]
      repeat (first | simp only [dd, t11, hsp, ix, ← hv, R.ok_bind, R.ok_out] | walk_at "sx")
      show wp _ (match setAt (ints' W) (sp : Int) (.int v) with
        | some us => O.nx [some T, some (.int 0), some (.int 9), some (.int (n : Int)), some (.lst us), some (.int (sp : Int)), none]
        | none => O.no)
      rw [se]
      walk_at "sx"
      refine ⟨W.set sp v, ⟨by rw [List.length_set]; omega, by rw [List.length_set]; omega⟩, fun w hw => ?_, rfl⟩
      rcases List.mem_or_eq_of_mem_set hw with h | h
      · exact hfb w h
      · rw [h]
        exact hvb
    · have dd := decide_eq_false hs
      repeat (first | simp only [dd, R.ok_bind, R.ok_out] | walk_at "sx")
      exact ⟨W, ⟨by omega, by omega⟩, hfb, rfl⟩)
  exact ⟨ws, g1, g2, ht⟩
end
end Lk17

/-! Plain: law k17, the law. -/
namespace Lk17
open PySem Jr Jr.P
local macro_rules | `(tactic| walk_at "sx") => `(tactic| simp (disch := omega) only [evE_int, evE_bl, evE_non, evE_str, evE_var, evE_gl, evE_im, evE_ims, evE_bin, evE_neg, evE_not, evE_cmp, evE_chain, evE_and, evE_or, evE_ite, evE_tup, evE_lst, evE_idx, evE_slc, evE_slk, evE_ind, lstT_lst, evE_rev, evE_call, evE_bi, evE_isi, evEs_nil, evEs_cons, evI_of, evI_rng1, evI_rng2, evI_enum, evI_zip, exec_set, exec_setp, exec_par, exec_seti, exec_aug, exec_app, exec_ife, exec_ret, exec_retn, exec_brk, exec_cnt, exec_pass, exec_expr, evC_def, tstT, parT, R.ok_bind, R.ok_out, R.ok_nox, wp_nx, wp_rt, wp_bk, wp_ct, wp_nil, wp_cons, later_nx, later_rt, later_bk, later_ct, later_n, later_r, later_r', later_b', later_c', List.getElem?_cons_zero, List.getElem?_cons_succ, Option.getD_some, Option.getD_none, ofO_some, List.set_cons_zero, List.set_cons_succ, bin_add, bin_sub, mul_r, mul_l, bin_fdiv, bin_mod, pow_18, cmp_eq, cmp_ne, cmp_lt, cmp_le, cmp_gt, cmp_ge, tru_bl, tru_int, neg_int, int_int, int_bl, abs_int, len_lst, len_tup, len_scr, max_int, min_int, gcd_int, list_lst, list_tup, tuple_lst, sum_ints, idx_ints, idx_scr, idx_3, idx_2, rng_1, rng_2, itemsT, bindP_var, bindP_tup, bindP_lst, bindPs_nil, bindPs_cons, divmod_int, lsz_le, lsz_0, lsz_1, lsz_2, lsz_3, lsz_4, lsz_5, lsz_6, lsz_7, lsz_8, if_lt_SZ, if_le_SZ, ints'_snoc, List.length_append, ints'_length, List.length_nil, List.length_cons, Nat.reduceAdd, Bool.false_eq_true, if_true, if_false, reduceIte, intO, ne_eq, not_true_eq_false, not_false_eq_true, decide_true, decide_false, Bool.not_true, Bool.not_false, isi_int_lst, isi_int_tup, isi_int_int, isi_int_bl, isi_int_str, isi_int_non, isi_bool_lst, isi_bool_tup, isi_bool_int, isi_bool_bl, isi_bool_str, isi_bool_non, isi_str_lst, isi_str_tup, isi_str_int, isi_str_bl, isi_str_str, isi_str_non, isi_list_lst, isi_list_tup, isi_list_int, isi_list_bl, isi_list_str, isi_list_non, isi_tuple_lst, isi_tuple_tup, isi_tuple_int, isi_tuple_bl, isi_tuple_str, isi_tuple_non, is_lst, isnot_lst, is_tup, isnot_tup, is_int, isnot_int, is_bl, isnot_bl, is_str, isnot_str, is_non, isnot_non, setAt_ints, aug_add, aug_sub, ints'_get, ite_ok, ite_bl, exec_rai, exec_trx, wq_nx, wq_rt, wq_bk, wq_ct, wq_ex, wq_nil, wq_cons, laterq_nx, laterq_rt, laterq_bk, laterq_ct, laterq_n, laterq_r, laterq_b, laterq_c, caught_rt, caught_nx, idx_p0, idx_p1, R.ex_out, R.ex_bind, evE_lrg1])
local macro_rules | `(tactic| walk_at "sxs") => `(tactic| simp (disch := omega) only [*, evE_int, evE_bl, evE_non, evE_str, evE_var, evE_gl, evE_im, evE_ims, evE_bin, evE_neg, evE_not, evE_cmp, evE_chain, evE_and, evE_or, evE_ite, evE_tup, evE_lst, evE_idx, evE_slc, evE_slk, evE_ind, lstT_lst, evE_rev, evE_call, evE_bi, evE_isi, evEs_nil, evEs_cons, evI_of, evI_rng1, evI_rng2, evI_enum, evI_zip, exec_set, exec_setp, exec_par, exec_seti, exec_aug, exec_app, exec_ife, exec_ret, exec_retn, exec_brk, exec_cnt, exec_pass, exec_expr, evC_def, tstT, parT, R.ok_bind, R.ok_out, R.ok_nox, wp_nx, wp_rt, wp_bk, wp_ct, wp_nil, wp_cons, later_nx, later_rt, later_bk, later_ct, later_n, later_r, later_r', later_b', later_c', List.getElem?_cons_zero, List.getElem?_cons_succ, Option.getD_some, Option.getD_none, ofO_some, List.set_cons_zero, List.set_cons_succ, bin_add, bin_sub, mul_r, mul_l, bin_fdiv, bin_mod, pow_18, cmp_eq, cmp_ne, cmp_lt, cmp_le, cmp_gt, cmp_ge, tru_bl, tru_int, neg_int, int_int, int_bl, abs_int, len_lst, len_tup, len_scr, max_int, min_int, gcd_int, list_lst, list_tup, tuple_lst, sum_ints, idx_ints, idx_scr, idx_3, idx_2, rng_1, rng_2, itemsT, bindP_var, bindP_tup, bindP_lst, bindPs_nil, bindPs_cons, divmod_int, lsz_le, lsz_0, lsz_1, lsz_2, lsz_3, lsz_4, lsz_5, lsz_6, lsz_7, lsz_8, if_lt_SZ, if_le_SZ, ints'_snoc, List.length_append, ints'_length, List.length_nil, List.length_cons, Nat.reduceAdd, Bool.false_eq_true, if_true, if_false, reduceIte, intO, ne_eq, not_true_eq_false, not_false_eq_true, decide_true, decide_false, Bool.not_true, Bool.not_false, isi_int_lst, isi_int_tup, isi_int_int, isi_int_bl, isi_int_str, isi_int_non, isi_bool_lst, isi_bool_tup, isi_bool_int, isi_bool_bl, isi_bool_str, isi_bool_non, isi_str_lst, isi_str_tup, isi_str_int, isi_str_bl, isi_str_str, isi_str_non, isi_list_lst, isi_list_tup, isi_list_int, isi_list_bl, isi_list_str, isi_list_non, isi_tuple_lst, isi_tuple_tup, isi_tuple_int, isi_tuple_bl, isi_tuple_str, isi_tuple_non, is_lst, isnot_lst, is_tup, isnot_tup, is_int, isnot_int, is_bl, isnot_bl, is_str, isnot_str, is_non, isnot_non, setAt_ints, aug_add, aug_sub, ints'_get, ite_ok, ite_bl, exec_rai, exec_trx, wq_nx, wq_rt, wq_bk, wq_ct, wq_ex, wq_nil, wq_cons, laterq_nx, laterq_rt, laterq_bk, laterq_ct, laterq_n, laterq_r, laterq_b, laterq_c, caught_rt, caught_nx, idx_p0, idx_p1, R.ex_out, R.ex_bind, evE_lrg1])
section
variable {k : Nat}
section
variable {T : Tr} {d : Int → Int} (hd : ∀ i, 0 ≤ d i ∧ d i < 5040) (hT : ∀ i : Int, 0 ≤ i → i < 60 → idxT T (.int i) = .ok (.int (d i))) (hTl : biT .len [T] = .ok (.int 60))
include hd hT hTl
theorem case_ok {m : Nat} (hm : m ≤ 5) : ∃ rows : List (List Int), (0 < rows.length ∧ rows.length ≤ 256) ∧ (∀ r ∈ rows, IsRow m r) ∧ runF fns gls 2000 (k + 2) 3 [T, .int 14, .int (m : Int)] = .ok (.tup [.int (m : Int), .lst (rows.map rowT)]) := by
  obtain ⟨es, he, hel, hq⟩ := ansL_ok m (by omega)
  have he0 : 0 < es.length := by rw [hel]; exact Nat.pow_pos (by omega)
  have he1 : es.length ≤ 256 := by rw [hel]; exact Nat.le_trans (Nat.pow_le_pow_right (by omega) (show m ≤ 8 by omega)) (by decide)
  obtain ⟨t, ht, rows, g1, g2, rfl⟩ := run_of (fs := fns) (gl := gls) (fuel := 2000) (k := k + 1) (f := 3) (ts := [T, .int 14, .int (m : Int)]) (d := f__law_case) (fun t => ∃ rows : List (List Int), (0 < rows.length ∧ rows.length ≤ 256) ∧ (∀ r ∈ rows, IsRow m r) ∧ t = .tup [.int (m : Int), .lst (rows.map rowT)]) rfl rfl (by
    show wp _ (execs _ _ [some T, some (.int 14), some (.int (m : Int)), none, none, none])
    simp only [f__law_case]
    have q : runF fns gls 2000 (k + 1) 4 [.int (m : Int)] = .ok (.lst (es.map rowT)) := hq k
    have t14 := hT 14 (by omega) (by omega)
    have e0 := Int.emod_nonneg (d 14) (show (3 : Int) ≠ 0 by omega)
    have e1 := Int.emod_lt_of_pos (d 14) (show (0 : Int) < 3 by omega)
    have hp : 2 ≤ pick3 (d 14 % 3) 2 3 5 := by
      unfold pick3
      split <;> (try split) <;> omega
    walk_at "sx"
    refine wp_cutL (fun ρ => ∃ (rows : List (List Int)) (u5 : Option Tr), (rows.length ≤ 256 ∧ ∀ r ∈ rows, IsRow m r) ∧ ∃ u4, ρ = [some T, some (.int 14), some (.int (m : Int)), some (.lst (rows.map rowT)), u4, u5]) ?_ ?_
    · refine wp_for (xs := es.map rowT) (by repeat (first | simp only [q, R.ok_bind, R.ok_out] | walk_at "sx")) (fun i ρ => ∃ (rows : List (List Int)) (u5 : Option Tr), (rows.length ≤ i ∧ ∀ r ∈ rows, IsRow m r) ∧ ρ = [some T, some (.int 14), some (.int (m : Int)), some (.lst (rows.map rowT)), some (.int (i : Int)), u5]) ⟨[], _, ⟨Nat.le_refl 0, fun r h => nomatch h⟩, rfl⟩ (fun i hi ρ hI => ?_) (fun ρ hI => ?_)
      · obtain ⟨rows, u5, ⟨r1, r2⟩, rfl⟩ := hI
        rw [List.length_map] at hi
        rw [List.getElem_map]
        have hr := he _ (List.getElem_mem hi)
        generalize es[i] = e at hr
        have a0 := Int.emod_nonneg (14 + (i : Int)) (show (60 : Int) ≠ 0 by omega)
        have a1 := Int.emod_lt_of_pos (14 + (i : Int)) (show (0 : Int) < 60 by omega)
        have ti := hT ((14 + (i : Int)) % 60) a0 a1
        generalize d ((14 + (i : Int)) % 60) = z at ti
        generalize hq3 : pick3 (d 14 % 3) 2 3 5 = q3 at *
        have hll : (rows.map rowT).length < 16777216 := by rw [List.length_map]; omega
        by_cases h : z % q3 > 0
        · have dd := decide_eq_true h
          repeat (first | simp only [hTl, ti, t14, hq3, dd, R.ok_bind, R.ok_out] | walk_at "sx")
          have em : rows.map rowT ++ [rowT e] = (rows ++ [e]).map rowT := by rw [List.map_append]; rfl
          rw [em]
          refine ⟨rows ++ [e], _, ⟨by rw [List.length_append]; show _ + 1 ≤ _; omega, fun r hr' => ?_⟩, rfl⟩
          rcases List.mem_append.mp hr' with h' | h'
          · exact r2 r h'
          · rw [List.mem_singleton.mp h']
            exact hr
        · have dd := decide_eq_false h
          repeat (first | simp only [hTl, ti, t14, hq3, dd, R.ok_bind, R.ok_out] | walk_at "sx")
          exact ⟨rows, _, ⟨by omega, r2⟩, rfl⟩
      · obtain ⟨rows, u5, ⟨r1, r2⟩, rfl⟩ := hI
        rw [List.length_map] at r1
        walk_at "sx"
        exact ⟨rows, _, ⟨by omega, r2⟩, _, rfl⟩
    · rintro ρ ⟨rows, u5, ⟨r1, r2⟩, u4, rfl⟩
      have hll : (rows.map rowT).length = rows.length := List.length_map _
      by_cases h : rows.length = 0
      · have dd : decide ((rows.length : Int) = 0) = true := decide_eq_true (by omega)
        have sl : slcT (.lst (es.map rowT)) (some 0) (some 1) = .ok (.lst ((es.take 1).map rowT)) := (slc_take (n := 1)).trans (by rw [List.map_take])
        repeat (first | simp only [hll, dd, q, sl, R.ok_bind, R.ok_out] | walk_at "sx")
        exact ⟨es.take 1, ⟨by rw [List.length_take]; omega, by rw [List.length_take]; omega⟩, fun r hr => he r (List.mem_of_mem_take hr), rfl⟩
      · have dd : decide ((rows.length : Int) = 0) = false := decide_eq_false (by omega)
        repeat (first | simp only [hll, dd, R.ok_bind, R.ok_out] | walk_at "sx")
        exact ⟨rows, ⟨by omega, r1⟩, r2, rfl⟩)
  exact ⟨rows, g1, g2, ht⟩
theorem votes_ok {m n : Nat} {rows : List (List Int)} (h0 : 0 < rows.length) (h1 : rows.length ≤ 256) (hr : ∀ r ∈ rows, IsRow m r) {a : Int} (ha : 0 ≤ a) (hn : n ≤ 20) : ∃ vs : List (List Int), vs.length = n ∧ (∀ v ∈ vs, IsRow m v) ∧ runF fns gls 2000 (k + 1) 6 [T, .int a, .lst (rows.map rowT), .int (n : Int)] = .ok (.lst (vs.map rowT)) := by
  obtain ⟨f, hf⟩ : ∃ f : Nat → List Int, f = fun (j : Nat) => rows.getD (d ((a + (j : Int)) % 60) % (rows.length : Int)).toNat [] := ⟨_, rfl⟩
  have fm : ∀ j, f j ∈ rows := fun j => by
    have a0 := Int.emod_nonneg (d ((a + (j : Int)) % 60)) (show (rows.length : Int) ≠ 0 by omega)
    have a1 := Int.emod_lt_of_pos (d ((a + (j : Int)) % 60)) (show 0 < (rows.length : Int) by omega)
    rw [hf]
    show rows.getD _ [] ∈ rows
    rw [getD_at (by omega)]
    exact List.getElem_mem _
  refine ⟨(List.range n).map f, by rw [List.length_map, List.length_range], fun v hv => ?_, ?_⟩
  · obtain ⟨j, _, rfl⟩ := List.mem_map.mp hv
    exact hr _ (fm j)
  · refine run_eq (d := f__law_votes) rfl rfl ?_
    show wp _ (execs _ _ [some T, some (.int a), some (.lst (rows.map rowT)), some (.int (n : Int)), none])
    simp only [f__law_votes]
    have hll : (rows.map rowT).length = rows.length := List.length_map _
    have cp : evE ⟨runF fns gls 2000 k, gls, 2000⟩ (.comp (.var 4) (.rng1 (.var 3)) (.nil) (.idx (.var 2) (.bin .mod (.idx (.var 0) (.bin .mod (.bin .add (.var 1) (.var 4)) (.bi .len (.cons (.var 0) (.nil))))) (.bi .len (.cons (.var 2) (.nil)))))) [some T, some (.int a), some (.lst (rows.map rowT)), some (.int (n : Int)), none]
        = .ok (.lst ((List.range n).map fun j => rowT (f j))) :=
      comp_v (xs := List.range n) (fun j : Nat => Tr.int (j : Int)) (fun j => rowT (f j)) (by
        walk_at "sx"
        rw [rng_nat]) (by rw [List.length_range]; omega) (fun j hj => by
        have a0 := Int.emod_nonneg (a + (j : Int)) (show (60 : Int) ≠ 0 by omega)
        have a1 := Int.emod_lt_of_pos (a + (j : Int)) (show (0 : Int) < 60 by omega)
        have tj := hT ((a + (j : Int)) % 60) a0 a1
        have b0 := Int.emod_nonneg (d ((a + (j : Int)) % 60)) (show (rows.length : Int) ≠ 0 by omega)
        have b1 := Int.emod_lt_of_pos (d ((a + (j : Int)) % 60)) (show 0 < (rows.length : Int) by omega)
        have ix := idx_vs (vs := rows) (i := (d ((a + (j : Int)) % 60) % (rows.length : Int)).toNat) (by omega)
        rw [Int.toNat_of_nonneg b0] at ix
        rw [hf]
        repeat (first | simp only [hTl, hll, tj, ix, R.ok_bind, R.ok_out] | walk_at "sx"))
    repeat (first | simp only [cp, R.ok_bind, R.ok_out] | walk_at "sx")
    rw [List.map_map]
    rfl
end
def lsT (L : List (List Tr)) : Tr := .lst (L.map Tr.lst)
theorem fT_c {n : Nat} {t : Tr} : fT n (fun _ => t) = List.replicate n t := by
  unfold fT
  exact List.map_const'.trans (by rw [List.length_range])
theorem ints_ask {ws : List Int} (h : ws.length ≤ 1000) : AskL (ints' ws) := ⟨by rw [ints'_length]; exact h, fun t ht => by
  obtain ⟨x, _, rfl⟩ := List.mem_map.mp ht
  rfl⟩
theorem some_ask {ts : List Tr} (h : ts.length ≤ 1000) (h2 : ts.all nscT = true) : AskL ts := ⟨h, List.all_eq_true.mp h2⟩
theorem sh_wT (ws : List Int) : Jr.sh (wT ws) = true := ints_sh ws 59
def items : List Tr := [.int 0, .int 1, .int 2, .int (-1), .int 1000, .int 1001, .bl true, .non, .str "1", .tup [.int 1]]
theorem lsz_11 {a0 a1 a2 a3 a4 a5 a6 a7 a8 a9 b0 : Tr} : lsz [a0, a1, a2, a3, a4, a5, a6, a7, a8, a9, b0] = .ok (.lst [a0, a1, a2, a3, a4, a5, a6, a7, a8, a9, b0]) := no_rfl rfl
theorem lsz_10 {a0 a1 a2 a3 a4 a5 a6 a7 a8 a9 : Tr} : lsz [a0, a1, a2, a3, a4, a5, a6, a7, a8, a9] = .ok (.lst [a0, a1, a2, a3, a4, a5, a6, a7, a8, a9]) := no_rfl rfl
theorem tup_ones {m : Nat} (h1 : 1 ≤ m) (h2 : m ≤ 4) : binT .mul (.tup [.int 1]) (.int (m : Int)) = .ok (rowT (List.replicate m 1)) := by
  have : m = 1 ∨ m = 2 ∨ m = 3 ∨ m = 4 := by omega
  rcases this with rfl | rfl | rfl | rfl <;> rfl
theorem okB_row {n : Nat} {r : List Int} (h : r.length ≤ 16777216) : okB (n + 1) (rowT r) = true := okB_tup.mpr ⟨by rw [ints'_length]; exact h, okBs_of fun t ht => by
  obtain ⟨x, _, rfl⟩ := List.mem_map.mp ht
  rfl⟩
theorem isrow_ones {m : Nat} : IsRow m (List.replicate m 1) := ⟨List.length_replicate, fun x hx => .inr (List.eq_of_mem_replicate hx)⟩
theorem idx_map {m q : Nat} {f : Nat → Int} (h : q < m) : idxT (rowT ((List.range m).map f)) (.int (q : Int)) = .ok (.int (f q)) := by
  rw [idx_row (by omega) (by rw [List.length_map, List.length_range]; omega), Int.toNat_natCast, List.getD_eq_getElem?_getD, List.getElem?_map, List.getElem?_range h]
  rfl
theorem items_ask : ∀ t ∈ items, nscT t = true := by
  have : items.all nscT = true := rfl
  exact List.all_eq_true.mp this
theorem stepL_mem {α : Type} {k : Nat} {l : List α} {x : α} (h : x ∈ stepL k l) : x ∈ l := by
  unfold stepL at h
  obtain ⟨j, _, hj⟩ := List.mem_filterMap.mp h
  exact List.mem_of_getElem? hj
theorem plain' (ns : List Int) : runF fns gls 2000 (k + 6) 0 [.scr ns] = .ok (.bl true) := by
  refine run_eq (d := f_law) rfl rfl ?_
  show wp _ (execs _ _ [some (.scr ns), none, none, none, none, none, none, none, none, none, none, none, none, none, none, none, none, none])
  simp only [f_law]
  have c1 : runF fns gls 2000 (k + 5) 5 [.scr ns, .int 0] = .ok (.int (cellN ns (0 : Int).toNat)) := cell_ok (k := k + 4) e_cell ns 0 (by omega)
  obtain ⟨D, hD, n1⟩ := numbers_ok (fs := fns) (gl := gls) (fuel := 2000) (k := k + 4) e_numbers (cellN ns (0 : Int).toNat) 60 5040 (by omega) (by omega) (by omega) (by omega)
  have n1 : runF fns gls 2000 (k + 5) 1 [.int (cellN ns (0 : Int).toNat), .int 60, .int 5040] = .ok (.lst (ints' D)) := n1
  have hTl : biT .len [.lst (ints' D)] = .ok (.int 60) := by
    show R.ok (Tr.int ((ints' D).length : Nat)) = _
    rw [ints'_length, hD.1]
    rfl
  obtain ⟨d, hd, hT⟩ := hD.fn (by omega)
  have hT : ∀ i : Int, 0 ≤ i → i < 60 → idxT (.lst (ints' D)) (.int i) = .ok (.int (d i)) := hT
  generalize Tr.lst (ints' D) = T at n1 hT hTl
  clear hD
  have t12 := hT 12 (by omega) (by omega)
  have t13 := hT 13 (by omega) (by omega)
  obtain ⟨ws, ⟨w1, w2⟩, wb, n2⟩ := weights_ok (k := k + 4) hd hT
  have n2 : runF fns gls 2000 (k + 5) 2 [T, .int 0, .int 9] = .ok (wT ws) := n2
  have wl : biT .len [wT ws] = .ok (.int (ws.length : Nat)) := by
    show R.ok (Tr.int ((ints' ws).length : Nat)) = _
    rw [ints'_length]
  have l1 : biT .list [wT ws] = .ok (wT ws) := rfl
  have a0 := Int.emod_nonneg (d 12) (show (ws.length : Int) ≠ 0 by omega)
  have a1 := Int.emod_lt_of_pos (d 12) (show 0 < (ws.length : Int) by omega)
  obtain ⟨at_, hat⟩ := Int.eq_ofNat_of_zero_le a0
  have hat2 : at_ < ws.length := by omega
  have m9 : ∀ t : Tr, binT .mul (.lst [t]) (.int 9) = .ok (.lst (List.replicate 9 t)) := fun t => by rw [← fT_c]; exact mul_one (n := 9) (by omega)
  have m10 : ∀ t : Tr, binT .mul (.lst [t]) (.int 10) = .ok (.lst (List.replicate 10 t)) := fun t => by rw [← fT_c]; exact mul_one (n := 10) (by omega)
  have b10 : ∀ t u : Tr, binT .add (.lst (List.replicate 10 t)) (.lst [u]) = .ok (.lst (List.replicate 10 t ++ [u])) := fun t u => bin_add_lst (by rw [List.length_replicate]; show 10 + 1 ≤ _; omega)
  have s1 : slcT (wT ws) (some 1) none = .ok (wT (ws.drop 1)) := (slc_drop (ts := ints' ws) (n := 1)).trans (by unfold wT ints'; rw [List.map_drop])
  have s2 : slcT (wT ws) (some 0) (some 1) = .ok (wT (ws.take 1)) := (slc_take (ts := ints' ws) (n := 1)).trans (by unfold wT ints'; rw [List.map_take])
  have s3 : binT .add (wT ws) (wT (ws.take 1)) = .ok (wT (ws ++ ws.take 1)) := by
    unfold wT
    rw [bin_add_lst (by rw [ints'_length, ints'_length, List.length_take]; omega)]
    unfold ints'
    rw [List.map_append]
  repeat (first | simp only [c1, n1, n2, wl, t12, hat, m9, m10, b10, s1, s2, s3, lsz_11, R.ok_bind, R.ok_out] | walk_at "sx")
  refine wp_cutL (fun ρ => ∃ (TL : List (List Tr)) (u6 : Option Tr), (∀ ts ∈ TL, AskL ts) ∧ ρ = [some (.scr ns), some T, some (wT ws), some (.int (ws.length : Nat)), some (.int (at_ : Int)), some (lsT TL), u6, none, none, none, none, none, none, none, none, none, none, none]) ?_ ?_
  · refine wp_for (xs := items) (by (repeat (first | simp only [lsz_10, R.ok_bind, R.ok_out] | walk_at "sx")); rfl) (fun i ρ => ∃ (TL : List (List Tr)) (u6 : Option Tr), ((∀ ts ∈ TL, AskL ts) ∧ TL.length = 11 + 4 * i) ∧ ρ = [some (.scr ns), some T, some (wT ws), some (.int (ws.length : Nat)), some (.int (at_ : Int)), some (lsT TL), u6, none, none, none, none, none, none, none, none, none, none, none])
      ⟨[ints' ws, ints' (ws.drop 1), ints' (ws ++ ws.take 1), [], List.replicate 9 (.int 1), List.replicate 10 (.int 1), List.replicate 10 (.int 1) ++ [.non], [.int 0], [.int 0, .int 0, .int 0], [.int 2], [.int 1000, .int 1]], _, ⟨fun ts h => ?_, rfl⟩, rfl⟩ (fun i hi ρ hI => ?_) (fun ρ hI => ?_)
    · simp only [List.mem_cons, List.not_mem_nil, or_false] at h
      rcases h with rfl | rfl | rfl | rfl | rfl | rfl | rfl | rfl | rfl | rfl | rfl
      · exact ints_ask (by omega)
      · exact ints_ask (by rw [List.length_drop]; omega)
      · exact ints_ask (by rw [List.length_append, List.length_take]; omega)
      all_goals exact some_ask (by decide) rfl
    · obtain ⟨TL, u6, ⟨h1, h2⟩, rfl⟩ := hI
      have hx := items_ask _ (List.getElem_mem hi)
      have hi10 : i < 10 := hi
      generalize items[i] = x at hx
      have z1 : slcT (wT ws) (some 0) (some (at_ : Int)) = .ok (.lst ((ints' ws).take at_)) := slc_take
      have z2 : slcT (wT ws) (some ((at_ : Int) + 1)) none = .ok (.lst ((ints' ws).drop (at_ + 1))) := slc_drop (n := at_ + 1)
      have q1 : binT .add (.lst ((ints' ws).take at_)) (.lst [x]) = .ok (.lst ((ints' ws).take at_ ++ [x])) := bin_add_lst (by rw [List.length_take, ints'_length]; show _ + 1 ≤ _; omega)
      have q2 : binT .add (.lst ((ints' ws).take at_ ++ [x])) (.lst ((ints' ws).drop (at_ + 1))) = .ok (.lst ((ints' ws).take at_ ++ [x] ++ (ints' ws).drop (at_ + 1))) := bin_add_lst (by rw [List.length_append, List.length_take, List.length_drop, ints'_length]; show _ + 1 + _ ≤ _; omega)
      have q4 : binT .add (.lst [x]) (.lst [.non]) = .ok (.lst [x, .non]) := bin_add_lst (by show 1 + 1 ≤ _; omega)
      have q3 : binT .add (lsT TL) (.lst [.lst ((ints' ws).take at_ ++ [x] ++ (ints' ws).drop (at_ + 1)), .lst [x], .lst [x, .int 1, .int 1], .lst [x, .non]]) = .ok (lsT (TL ++ [(ints' ws).take at_ ++ [x] ++ (ints' ws).drop (at_ + 1), [x], [x, .int 1, .int 1], [x, .non]])) := by
        unfold lsT
        rw [bin_add_lst (by rw [List.length_map]; show _ + 4 ≤ _; omega), List.map_append]
        rfl
      repeat (first | simp only [z1, z2, q1, q2, q3, q4, R.ok_bind, R.ok_out] | walk_at "sx")
      have hwa := (ints_ask (ws := ws) (by omega)).2
      refine ⟨_, _, ⟨fun ts h => ?_, by rw [List.length_append]; show _ + 4 = _; omega⟩, rfl⟩
      rcases List.mem_append.mp h with h | h
      · exact h1 ts h
      · simp only [List.mem_cons, List.not_mem_nil, or_false] at h
        rcases h with rfl | rfl | rfl | rfl
        · refine ⟨by rw [List.length_append, List.length_append, List.length_take, List.length_drop, ints'_length]; show _ + 1 + _ ≤ _; omega, fun t ht => ?_⟩
          rcases List.mem_append.mp ht with ht | ht
          · rcases List.mem_append.mp ht with ht | ht
            · exact hwa t (List.mem_of_mem_take ht)
            · rw [List.mem_singleton.mp ht]
              exact hx
          · exact hwa t (List.mem_of_mem_drop ht)
        · exact some_ask (by show 1 ≤ 1000; omega) (by rw [List.all_cons, hx]; rfl)
        · exact some_ask (by show 3 ≤ 1000; omega) (by rw [List.all_cons, hx]; rfl)
        · exact some_ask (by show 2 ≤ 1000; omega) (by rw [List.all_cons, hx]; rfl)
    · obtain ⟨TL, u6, ⟨h1, h2⟩, rfl⟩ := hI
      walk_at "sx"
      exact ⟨TL, _, h1, rfl⟩
  rintro ρ ⟨TL, u6, hTL, rfl⟩
  rw [wp_cons]
  refine wp_cutL (fun ρ => ∃ u7, ρ = [some (.scr ns), some T, some (wT ws), some (.int (ws.length : Nat)), some (.int (at_ : Int)), some (lsT TL), u6, u7, none, none, none, none, none, none, none, none, none, none]) ?_ ?_
  · refine wp_for (xs := TL.map Tr.lst) (by walk_at "sx"; rfl) (fun i ρ => ∃ u7, ρ = [some (.scr ns), some T, some (wT ws), some (.int (ws.length : Nat)), some (.int (at_ : Int)), some (lsT TL), u6, u7, none, none, none, none, none, none, none, none, none, none]) ⟨_, rfl⟩ (fun i hi ρ hI => ?_) (fun ρ hI => ?_)
    · obtain ⟨u7, rfl⟩ := hI
      rw [List.length_map] at hi
      rw [List.getElem_map]
      have ha := hTL _ (List.getElem_mem hi)
      generalize TL[i]'(by omega) = ts at ha
      have x1 : runF fns gls 2000 (k + 5) 11 [.lst ts] = .ok (.str (wordS ts)) := checked_ok (k := k + 1) ha
      have x2 : runF fns gls 2000 (k + 5) 15 [.lst ts] = .ok (.str (wordS ts)) := word_ok (k := k + 4) ha
      have x3 : cmpT .ne (.str (wordS ts)) (.str (wordS ts)) = .ok false := by
        rw [cmp_neS]
        simp
      repeat (first | simp only [x1, x2, x3, R.ok_bind, R.ok_out] | walk_at "sx")
      exact ⟨_, rfl⟩
    · obtain ⟨u7, rfl⟩ := hI
      walk_at "sx"
      exact ⟨_, rfl⟩
  rintro ρ ⟨u7, rfl⟩
  have sb : ∀ z : Bool, runF fns gls 2000 (k + 5) 17 [.bl z, .bl z] = .ok (.bl true) := fun z => same_ok e_same 0 _ (k + 4) (by omega) rfl
  have ss : runF fns gls 2000 (k + 5) 16 [.int (ws.length : Int)] = .ok (.lst ((SS ws.length).map nT)) := sets_ok (k := k + 4) _ (by omega)
  have sk : slkT 7 (.lst ((SS ws.length).map nT)) (some 0) (some 512) = .ok (.lst (stepL 7 (cut ((SS ws.length).map nT) (some 0) (some 512)))) := rfl
  have lg : lsz (rngL 0 (ws.length : Int)) = .ok (nT (List.range ws.length)) := by
    rw [lsz_le (by rw [rngL_length]; omega), rng_nat]
    rfl
  have hXL : (stepL 7 (cut ((SS ws.length).map nT) (some 0) (some 512))).length ≤ 512 := by
    unfold stepL
    refine Nat.le_trans (List.length_filterMap_le _ _) ?_
    rw [List.length_range]
    have hc : (cut ((SS ws.length).map nT) (some 0) (some 512)).length ≤ 512 := by
      unfold cut
      dsimp only
      rw [List.length_take]
      unfold sIx
      simp
      omega
    omega
  have hXm : ∀ t ∈ stepL 7 (cut ((SS ws.length).map nT) (some 0) (some 512)), ∃ S, t = nT S ∧ (∀ j ∈ S, j < ws.length) ∧ S.length ≤ 1000 := fun t ht => by
    have h1 := stepL_mem ht
    unfold cut at h1
    have h2 := List.mem_of_mem_drop (List.mem_of_mem_take h1)
    obtain ⟨S, hS, rfl⟩ := List.mem_map.mp h2
    have := SS_mem _ S hS
    exact ⟨S, rfl, this.1, by omega⟩
  generalize stepL 7 (cut ((SS ws.length).map nT) (some 0) (some 512)) = XL at sk hXL hXm
  have ba : binT .add (.lst XL) (.lst [nT (List.range ws.length)]) = .ok (.lst (XL ++ [nT (List.range ws.length)])) := bin_add_lst (by show _ + 1 ≤ _; omega)
  have hYm : ∀ t ∈ XL ++ [nT (List.range ws.length)], ∃ S, t = nT S ∧ (∀ j ∈ S, j < ws.length) ∧ S.length ≤ 1000 := fun t ht => by
    rcases List.mem_append.mp ht with h | h
    · exact hXm t h
    · exact ⟨_, List.mem_singleton.mp h, fun j hj => List.mem_range.mp hj, by rw [List.length_range]; omega⟩
  generalize XL ++ [nT (List.range ws.length)] = YL at ba hYm
  repeat (first | simp only [l1, R.ok_bind, R.ok_out] | walk_at "sx")
  refine wp_cutL (fun ρ => ∃ u7, ρ = [some (.scr ns), some T, some (wT ws), some (.int (ws.length : Nat)), some (.int (at_ : Int)), some (lsT TL), u6, u7, some (wT ws), none, none, none, none, none, none, none, none, none]) ?_ ?_
  · refine wp_for (xs := YL) (by repeat (first | simp only [ss, sk, lg, ba, R.ok_bind, R.ok_out] | walk_at "sx")) (fun i ρ => ∃ u7, ρ = [some (.scr ns), some T, some (wT ws), some (.int (ws.length : Nat)), some (.int (at_ : Int)), some (lsT TL), u6, u7, some (wT ws), none, none, none, none, none, none, none, none, none]) ⟨_, rfl⟩ (fun i hi ρ hI => ?_) (fun ρ hI => ?_)
    · obtain ⟨u7, rfl⟩ := hI
      obtain ⟨S, hS, S1, S2⟩ := hYm _ (List.getElem_mem hi)
      rw [hS]
      have h1 : runF fns gls 2000 (k + 5) 8 [wT ws, nT S] = .ok (.bl (hvy ws S)) := heavy_ok (k := k + 3) S1 S2
      have h2 : runF fns gls 2000 (k + 5) 19 [wT ws, nT S] = .ok (.bl (hvy ws S)) := lheavy_ok (k := k + 4) S1 S2
      have h3 : runF fns gls 2000 (k + 5) 8 [wT ws, nT S.reverse] = .ok (.bl (hvy ws S)) := by
        rw [← hvy_rev]
        exact heavy_ok (k := k + 3) (fun j hj => S1 j (List.mem_reverse.mp hj)) (by rw [List.length_reverse]; exact S2)
      have rv : revT (nT S) = .ok (nT S.reverse) := by
        show R.ok (Tr.lst (S.map fun i : Nat => Tr.int (i : Int)).reverse) = _
        unfold nT
        rw [List.map_reverse]
      have sz := sb (hvy ws S)
      repeat (first | simp only [h1, h2, h3, rv, sz, R.ok_bind, R.ok_out] | walk_at "sx")
      exact ⟨_, rfl⟩
    · obtain ⟨u7, rfl⟩ := hI
      walk_at "sx"
      exact ⟨_, rfl⟩
  rintro ρ ⟨u7, rfl⟩
  have e0 := Int.emod_nonneg (d 13) (show (4 : Int) ≠ 0 by omega)
  have e1 := Int.emod_lt_of_pos (d 13) (show (0 : Int) < 4 by omega)
  obtain ⟨m, hm⟩ := Int.eq_ofNat_of_zero_le (show 0 ≤ 1 + d 13 % 4 by omega)
  obtain ⟨rows, ⟨r0, r1⟩, hr, qc⟩ := case_ok (k := k + 3) hd hT hTl (m := m) (by omega)
  have qc : runF fns gls 2000 (k + 5) 3 [T, .int 14, .int (m : Int)] = .ok (.tup [.int (m : Int), .lst (rows.map rowT)]) := qc
  have i1 : idxT (.tup [.int (m : Int), .lst (rows.map rowT)]) (.int 1) = .ok (.lst (rows.map rowT)) := rfl
  have eqw : cmpT .eq (wT ws) (wT ws) = .ok true := cmp_eq_refl (sh_wT ws)
  repeat (first | simp only [t13, hm, qc, R.ok_bind, R.ok_out] | walk_at "sx")
  refine wp_cutL (fun ρ => ∃ u11 u12 u13 u14 u15 u16, ρ = [some (.scr ns), some T, some (wT ws), some (.int (ws.length : Nat)), some (.int (at_ : Int)), some (lsT TL), u6, u7, some (wT ws), some (.int (m : Int)), some (.tup [.int (m : Int), .lst (rows.map rowT)]), u11, u12, u13, u14, u15, u16, none]) ?_ ?_
  · refine wp_for (xs := rngL 0 4) (by walk_at "sx") (fun i ρ => ∃ u11 u12 u13 u14 u15 u16, ρ = [some (.scr ns), some T, some (wT ws), some (.int (ws.length : Nat)), some (.int (at_ : Int)), some (lsT TL), u6, u7, some (wT ws), some (.int (m : Int)), some (.tup [.int (m : Int), .lst (rows.map rowT)]), u11, u12, u13, u14, u15, u16, none]) ⟨_, _, _, _, _, _, rfl⟩ (fun i hi ρ hI => ?_) (fun ρ hI => ?_)
    · obtain ⟨u11, u12, u13, u14, u15, u16, rfl⟩ := hI
      rw [rngL_length] at hi
      simp only [rngL_get, Int.zero_add]
      obtain ⟨vs, v1, v2, qv⟩ := votes_ok (k := k + 4) hd hT hTl r0 r1 hr (a := 30 + 7 * (i : Int)) (by omega) (n := ws.length) (by omega)
      have qv : runF fns gls 2000 (k + 5) 6 [T, .int (30 + 7 * (i : Int)), .lst (rows.map rowT), .int (ws.length : Int)] = .ok (.lst (vs.map rowT)) := qv
      obtain ⟨hvs1, hvs2⟩ : vs.length = ws.length ∧ ∀ v ∈ vs, v.length = m := ⟨v1, fun v hv => (v2 v hv).1⟩
      have p1 : runF fns gls 2000 (k + 5) 7 [wT ws, .lst (vs.map rowT)] = .ok (rowT ((List.range m).map (oq ws vs))) := weighted_ok (k := k + 2) v1.symm (by omega) hvs2 (by omega) (by omega)
      have p2 : runF fns gls 2000 (k + 5) 18 [wT ws, .lst (vs.map rowT)] = .ok (rowT ((List.range m).map (oq ws vs))) := lweighted_ok (k := k + 3) v1.symm (by omega) hvs2 (by omega) (by omega)
      have sr : ∀ r : List Int, r.length = m → runF fns gls 2000 (k + 5) 17 [rowT r, rowT r] = .ok (.bl true) := fun r h => same_ok e_same 1 _ (k + 4) (by omega) (okB_row (n := 0) (by omega))
      have p3 := sr ((List.range m).map (oq ws vs)) (by rw [List.length_map, List.length_range])
      have t50 := hT (50 + (i : Int)) (by omega) (by omega)
      have f0 := Int.emod_nonneg (d (50 + (i : Int))) (show (ws.length : Int) ≠ 0 by omega)
      have f1 := Int.emod_lt_of_pos (d (50 + (i : Int))) (show 0 < (ws.length : Int) by omega)
      obtain ⟨j, hj⟩ := Int.eq_ofNat_of_zero_le f0
      have hj2 : j < ws.length := by omega
      have o1 := tup_ones (m := m) (by omega) (by omega)
      have z1 : slcT (.lst (vs.map rowT)) (some 0) (some (j : Int)) = .ok (.lst ((vs.take j).map rowT)) := slc_take.trans (by rw [List.map_take])
      have z2 : slcT (.lst (vs.map rowT)) (some ((j : Int) + 1)) none = .ok (.lst ((vs.drop (j + 1)).map rowT)) := (slc_drop (n := j + 1)).trans (by rw [List.map_drop])
      have y1 : binT .add (.lst ((vs.take j).map rowT)) (.lst [rowT (List.replicate m 1)]) = .ok (.lst ((vs.take j ++ [List.replicate m 1]).map rowT)) := (bin_add_lst (by rw [List.length_map, List.length_take]; show _ + 1 ≤ _; omega)).trans (by rw [List.map_append]; rfl)
      have y2 : binT .add (.lst ((vs.take j ++ [List.replicate m 1]).map rowT)) (.lst ((vs.drop (j + 1)).map rowT)) = .ok (.lst ((vs.take j ++ [List.replicate m 1] ++ vs.drop (j + 1)).map rowT)) := (bin_add_lst (by rw [List.length_map, List.length_map, List.length_append, List.length_take, List.length_drop]; show _ + 1 + _ ≤ _; omega)).trans (by rw [← List.map_append])
      obtain ⟨us, hus⟩ : ∃ us, us = vs.take j ++ [List.replicate m 1] ++ vs.drop (j + 1) := ⟨_, rfl⟩
      have ul : us.length = ws.length := by
        rw [hus, List.length_append, List.length_append, List.length_take, List.length_drop]
        show _ + 1 + _ = _
        omega
      have ur : ∀ v ∈ us, IsRow m v := fun v hv => by
        rw [hus] at hv
        rcases List.mem_append.mp hv with hv | hv
        · rcases List.mem_append.mp hv with hv | hv
          · exact v2 v (List.mem_of_mem_take hv)
          · rw [List.mem_singleton.mp hv]
            exact isrow_ones
        · exact v2 v (List.mem_of_mem_drop hv)
      have ug : ∀ q, q < m → ∀ a, a < vs.length → (vs.getD a []).getD q 0 = 1 → (us.getD a []).getD q 0 = 1 := fun q hq a ha h => by
        rw [hus, List.append_assoc, List.getD_eq_getElem?_getD (l := vs.take j ++ _)]
        by_cases c1 : a < j
        · rw [List.getElem?_append_left (by rw [List.length_take]; omega), List.getElem?_take_of_lt c1, ← List.getD_eq_getElem?_getD]
          exact h
        · rw [List.getElem?_append_right (by rw [List.length_take]; omega), List.length_take, Nat.min_eq_left (by omega)]
          by_cases c2 : a = j
          · rw [c2, Nat.sub_self]
            show (List.replicate m (1 : Int)).getD q 0 = 1
            rw [List.getD_eq_getElem?_getD, List.getElem?_replicate, if_pos hq]
            rfl
          · obtain ⟨b, rfl⟩ : ∃ b, a = j + 1 + b := ⟨a - (j + 1), by omega⟩
            rw [show j + 1 + b - j = b + 1 by omega]
            show ((vs.drop (j + 1))[b]?.getD []).getD q 0 = 1
            rw [List.getElem?_drop, ← List.getD_eq_getElem?_getD]
            exact h
      rw [← hus] at y2
      have p4 : runF fns gls 2000 (k + 5) 7 [wT ws, .lst (us.map rowT)] = .ok (rowT ((List.range m).map (oq ws us))) := weighted_ok (k := k + 2) ul.symm (by omega) (fun v hv => (ur v hv).1) (by omega) (by omega)
      have mo1 : ∀ q, q < m → oq ws vs q ≤ oq ws us q := fun q hq => oq_mono (fun w hw => (wb w hw).1) v1.symm (by omega) (ug q hq)
      have c0 : evE ⟨runF fns gls 2000 (k + 5), gls, 2000⟩ (.comp (.var 17) (.rng1 (.var 9)) (.cmp .gt (.idx (.var 13) (.var 17)) (.idx (.var 15) (.var 17))) (.var 17)) [some (.scr ns), some T, some (wT ws), some (.int (ws.length : Nat)), some (.int (at_ : Int)), some (lsT TL), u6, u7, some (wT ws), some (.int (m : Int)), some (.tup [.int (m : Int), .lst (rows.map rowT)]), some (.int (i : Int)), some (.lst (vs.map rowT)), some (rowT ((List.range m).map (oq ws vs))), some (.int (j : Int)), some (rowT ((List.range m).map (oq ws us))), u16, none] = .ok (.lst []) := by
        refine (comp_vf (xs := List.range m) (fun q : Nat => Tr.int (q : Int)) (fun q => decide (oq ws vs q > oq ws us q)) (fun q => Tr.int (q : Int)) (by
          walk_at "sx"
          rw [rng_nat]) (by rw [List.length_range]; omega) (fun q hq => ?_) (fun q hq h => by walk_at "sx")).trans ?_
        · have g1 := idx_map (f := oq ws vs) (List.mem_range.mp hq)
          have g2 := idx_map (f := oq ws us) (List.mem_range.mp hq)
          repeat (first | simp only [g1, g2, R.ok_bind, R.ok_out] | walk_at "sx")
        · rw [List.filter_eq_nil_iff.mpr fun q hq => ?_]
          · rfl
          · have := mo1 q (List.mem_range.mp hq)
            rw [decide_eq_true_eq]
            omega
      obtain ⟨c, hc⟩ : ∃ c : Nat, (ws.length : Int) - ((ws.length : Int) + 1) % 2 = (c : Int) := ⟨((ws.length : Int) - ((ws.length : Int) + 1) % 2).toNat, by omega⟩
      have hc2 : 1 ≤ c ∧ c ≤ ws.length := by omega
      have z3 : slcT (.lst (vs.map rowT)) (some 0) (some (c : Int)) = .ok (.lst ((vs.take c).map rowT)) := slc_take.trans (by rw [List.map_take])
      have ol : (vs.take c).length = c := by rw [List.length_take]; omega
      have or1 : ∀ v ∈ vs.take c, IsRow m v := fun v hv => v2 v (List.mem_of_mem_take hv)
      generalize vs.take c = ov at z3 ol or1
      have ovl : (ov.map rowT).length = c := by rw [List.length_map, ol]
      have m3 : binT .mul (.lst [.int 3]) (.int (c : Int)) = .ok (wT (List.replicate c 3)) := (mul_one (by omega)).trans (by
        rw [fT_c]
        unfold wT ints'
        rw [List.map_replicate])
      have p5 : runF fns gls 2000 (k + 5) 7 [wT (List.replicate c 3), .lst (ov.map rowT)] = .ok (rowT ((List.range m).map (mo ov))) := (weighted_ok (k := k + 2) (by rw [List.length_replicate, ol]) (by omega) (fun v hv => (or1 v hv).1) (by omega) (by omega)).trans (by
        refine congrArg (fun x => R.ok (rowT x)) (List.map_congr_left fun q hq => ?_)
        rw [← ol]
        exact oq_alike or1 (List.mem_range.mp hq))
      have p6 : runF fns gls 2000 (k + 5) 20 [.lst (ov.map rowT)] = .ok (rowT ((List.range m).map (mo ov))) := most_say_ok (k := k + 2) e_msay e_mon e_yes (fun v hv => (or1 v hv).1) (by omega) (by omega) (by omega)
      have p7 := sr ((List.range m).map (mo ov)) (by rw [List.length_map, List.length_range])
      repeat (first | simp only [i1, qv, p1, p2, p3, t50, hj, z1, z2, o1, y1, y2, p4, R.ok_bind, R.ok_out] | walk_at "sx")
      have zz : decide ((0 : Int) < ((0 : Nat) : Int)) = false := rfl
      repeat (first | simp only [c0, zz, R.ok_bind, R.ok_out] | walk_at "sx")
      repeat (first | simp only [hc, z3, ovl, m3, p5, p6, p7, R.ok_bind, R.ok_out] | walk_at "sx")
      exact ⟨_, _, _, _, _, _, rfl⟩
    · obtain ⟨u11, u12, u13, u14, u15, u16, rfl⟩ := hI
      walk_at "sx"
      exact ⟨_, _, _, _, _, _, rfl⟩
  · rintro ρ ⟨u11, u12, u13, u14, u15, u16, rfl⟩
    repeat (first | simp only [eqw, R.ok_bind, R.ok_out] | walk_at "sx")
theorem plain (ns : List Int) (h : ns.length ≤ 63) : runF fns gls 2000 12 0 [.scr ns] = .ok (.bl true) := plain' (k := 6) ns
end
end Lk17

/-! The annotations of a law's terms have no part in what the evaluator does. (printed by mker.py) -/
namespace Jr
open PySem
mutual
def erE : Ex → Ex
  | .int i => .int i
  | .bl i => .bl i
  | .non => .non
  | .str i => .str i
  | .var i => .var i
  | .gl i => .gl i
  | .im a => .im (erE a)
  | .ims a => .ims (erE a)
  | .bin o a b => .bin o (erE a) (erE b)
  | .neg a => .neg (erE a)
  | .not a => .not (erE a)
  | .cmp o a b => .cmp o (erE a) (erE b)
  | .chain o p a b d => .chain o p (erE a) (erE b) (erE d)
  | .and a b => .and (erE a) (erE b)
  | .or a b => .or (erE a) (erE b)
  | .ite d a b => .ite (erE d) (erE a) (erE b)
  | .tup E => .tup (erEs E)
  | .lst E => .lst (erEs E)
  | .idx a b => .idx (erE a) (erE b)
  | .slc a b d => .slc (erE a) (erE b) (erE d)
  | .slk k a b d => .slk k (erE a) (erE b) (erE d)
  | .rev a => .rev (erE a)
  | .call f E => .call f (erEs E)
  | .cald f E => .call f (erEs E)
  | .bi o E => .bi o (erEs E)
  | .isi o a => .isi o (erE a)
  | .lrg1 a => .lrg1 (erE a)
  | .lrg2 a b => .lrg2 (erE a) (erE b)
  | .ind i b => .ind i (erE b)
  | .comp p I d a => .comp p (erI I) (erE d) (erE a)
  | .comp2 p I q J d a => .comp2 p (erI I) q (erI J) (erE d) (erE a)
  | .nil => .nil
def erEs : Exs → Exs
  | .nil => .nil
  | .cons a E => .cons (erE a) (erEs E)
def erI : It → It
  | .of a => .of (erE a)
  | .rng1 a => .rng1 (erE a)
  | .rng2 a b => .rng2 (erE a) (erE b)
  | .enum a => .enum (erE a)
  | .zip a b => .zip (erE a) (erE b)
end
mutual
def erS : St → St
  | .set i a => .set i (erE a)
  | .setp p a => .setp p (erE a)
  | .par i j a b => .par i j (erE a) (erE b)
  | .seti i a b => .seti i (erE a) (erE b)
  | .aug i o a => .aug i o (erE a)
  | .app i a => .app i (erE a)
  | .ife d S T => .ife (erE d) (erSs S) (erSs T)
  | .for fl p I S => .for [] p (erI I) (erSs S)
  | .whl fl d S => .whl [] (erE d) (erSs S)
  | .ret a => .ret (erE a)
  | .retn => .retn
  | .brk => .brk
  | .cnt => .cnt
  | .pass => .pass
  | .expr a => .expr (erE a)
  | .rai x => .rai x
  | .trx h t S => .trx h t (erSs S)
def erSs : Sts → Sts
  | .nil => .nil
  | .cons s S => .cons (erS s) (erSs S)
  | .kil i e gs d ks S => .kil i (erE e) (gs.map erE) (d.map erE) (ks.map fun x => (x.1, erE x.2)) (erSs S)
end
def erF (f : Fn) : Fn := ⟨f.name, f.np, f.N, erSs f.body, false, false⟩
section
variable {c : Ctx}
theorem tst_er (d : Ex) (r : R Tr) : tstT (erE d) r = tstT d r := by
  cases d <;> first | rfl | (simp only [erE, tstT])
theorem par_er (d : Ex) (r : R Tr) : parT (erE d) r = parT d r := by
  cases d <;> first | rfl | (simp only [erE, parT])
mutual
theorem evE_er : ∀ (e : Ex) (ρ : Env), evE c (erE e) ρ = evE c e ρ
  | .int i, ρ => rfl
  | .bl i, ρ => rfl
  | .non, ρ => rfl
  | .str i, ρ => rfl
  | .var i, ρ => rfl
  | .gl i, ρ => rfl
  | .im a, ρ => by simp only [erE, evE, evE_er a, tst_er, par_er]
  | .ims a, ρ => by simp only [erE, evE, evE_er a, tst_er, par_er]
  | .bin o a b, ρ => by simp only [erE, evE, evE_er a, evE_er b, tst_er, par_er]
  | .neg a, ρ => by simp only [erE, evE, evE_er a, tst_er, par_er]
  | .not a, ρ => by simp only [erE, evE, evE_er a, tst_er, par_er]
  | .cmp o a b, ρ => by simp only [erE, evE, evE_er a, evE_er b, tst_er, par_er]
  | .chain o p a b d, ρ => by simp only [erE, evE, evE_er a, evE_er b, evE_er d, tst_er, par_er]
  | .and a b, ρ => by simp only [erE, evE, evE_er a, evE_er b, tst_er, par_er]
  | .or a b, ρ => by simp only [erE, evE, evE_er a, evE_er b, tst_er, par_er]
  | .ite d a b, ρ => by simp only [erE, evE, evE_er d, evE_er a, evE_er b, tst_er, par_er]
  | .tup E, ρ => by simp only [erE, evE, evEs_er E, tst_er, par_er]
  | .lst E, ρ => by simp only [erE, evE, evEs_er E, tst_er, par_er]
  | .idx a b, ρ => by simp only [erE, evE, evE_er a, evE_er b, tst_er, par_er]
  | .slc a b d, ρ => by simp only [erE, evE, evE_er a, evE_er b, evE_er d, tst_er, par_er]
  | .slk k a b d, ρ => by simp only [erE, evE, evE_er a, evE_er b, evE_er d, tst_er, par_er]
  | .rev a, ρ => by simp only [erE, evE, evE_er a, tst_er, par_er]
  | .call f E, ρ => by simp only [erE, evE, evEs_er E, tst_er, par_er]
  | .cald f E, ρ => by simp only [erE, evE, evEs_er E, tst_er, par_er]
  | .bi o E, ρ => by simp only [erE, evE, evEs_er E, tst_er, par_er]
  | .isi o a, ρ => by simp only [erE, evE, evE_er a, tst_er, par_er]
  | .lrg1 a, ρ => by simp only [erE, evE, evE_er a, tst_er, par_er]
  | .lrg2 a b, ρ => by simp only [erE, evE, evE_er a, evE_er b, tst_er, par_er]
  | .ind i b, ρ => by simp only [erE, evE, evE_er b, tst_er, par_er]
  | .comp p I d a, ρ => by simp only [erE, evE, evI_er I, evE_er d, evE_er a, tst_er, par_er]
  | .comp2 p I q J d a, ρ => by simp only [erE, evE, evI_er I, evI_er J, evE_er d, evE_er a, tst_er, par_er]
  | .nil, ρ => rfl
theorem evEs_er : ∀ (e : Exs) (ρ : Env), evEs c (erEs e) ρ = evEs c e ρ
  | .nil, ρ => rfl
  | .cons a E, ρ => by simp only [erEs, evEs, evE_er a, evEs_er E]
theorem evI_er : ∀ (e : It) (ρ : Env), evI c (erI e) ρ = evI c e ρ
  | .of a, ρ => by simp only [erI, evI, evE_er a]
  | .rng1 a, ρ => by simp only [erI, evI, evE_er a]
  | .rng2 a b, ρ => by simp only [erI, evI, evE_er a, evE_er b]
  | .enum a, ρ => by simp only [erI, evI, evE_er a]
  | .zip a b, ρ => by simp only [erI, evI, evE_er a, evE_er b]
end
theorem evC_er (d : Ex) (ρ : Env) : evC c (erE d) ρ = evC c d ρ := by
  unfold evC
  rw [tst_er, evE_er]
theorem guardO_er (o : O) (ρ : Env) : ∀ gs : List Ex, guardO c (gs.map erE) ρ o = guardO c gs ρ o
  | [] => rfl
  | g :: gs => by simp only [List.map_cons, guardO, evC_er, guardO_er o ρ gs]
theorem killO_er (t : Tr) (m : Nat) (o : O) (ρ : Env) : ∀ ks : List (List Nat × Ex), killO c t m (ks.map fun x => (x.1, erE x.2)) ρ o = killO c t m ks ρ o
  | [] => rfl
  | x :: ks => by simp only [List.map_cons, killO, evE_er, killO_er t m o ρ ks]
theorem killD_er (t : Tr) (d : Option Ex) (ks : List (List Nat × Ex)) (o : O) (ρ1 ρ2 : Env) : killD c t (d.map erE) (ks.map fun x => (x.1, erE x.2)) ρ1 ρ2 o = killD c t d ks ρ1 ρ2 o := by
  cases d <;> simp only [Option.map_none, Option.map_some, killD, evC_er, killO_er, List.length_map]
mutual
theorem exec_er : ∀ (s : St) (ρ : Env), exec c (erS s) ρ = exec c s ρ
  | .set i a, ρ => by simp only [erS, exec, evE_er]
  | .setp p a, ρ => by simp only [erS, exec, evE_er]
  | .par i j a b, ρ => by simp only [erS, exec, evE_er]
  | .seti i a b, ρ => by simp only [erS, exec, evE_er]
  | .aug i o a, ρ => by simp only [erS, exec, evE_er]
  | .app i a, ρ => by simp only [erS, exec, evE_er]
  | .ife d S T, ρ => by simp only [erS, exec, evC_er, execs_er S, execs_er T]
  | .for fl p I S, ρ => by simp only [erS, exec, evI_er, execs_er S]
  | .whl fl d S, ρ => by simp only [erS, exec, evC_er, execs_er S]
  | .ret a, ρ => by simp only [erS, exec, evE_er]
  | .retn, ρ => rfl
  | .brk, ρ => rfl
  | .cnt, ρ => rfl
  | .pass, ρ => rfl
  | .expr a, ρ => by simp only [erS, exec, evE_er]
  | .rai x, ρ => rfl
  | .trx h t S, ρ => by simp only [erS, exec, execs_er S]
theorem execs_er : ∀ (s : Sts) (ρ : Env), execs c (erSs s) ρ = execs c s ρ
  | .nil, ρ => rfl
  | .cons s S, ρ => by simp only [erSs, execs, exec_er s, execs_er S]
  | .kil i e gs d ks S, ρ => by simp only [erSs, execs, evE_er, guardO_er, killD_er, execs_er S]
end
end
theorem runF_er (fs : List Fn) (gl : List Tr) (fuel : Nat) : ∀ k, runF (fs.map erF) gl fuel k = runF fs gl fuel k
  | 0 => rfl
  | k + 1 => by
    funext f ts
    simp only [runF, List.getElem?_map, runF_er fs gl fuel k]
    cases fs[f]? with
    | none => rfl
    | some d => simp only [Option.map_some, erF, execs_er]
/-- the same but for annotations: the same -/
theorem runF_same {fs gs : List Fn} {gl : List Tr} {fuel k f : Nat} {ts : List Tr} {r : R Tr} (e : fs.map erF = gs.map erF) (h : runF gs gl fuel k f ts = r) : runF fs gl fuel k f ts = r := by
  rw [← runF_er fs, e, runF_er gs]
  exact h
end Jr

/-! Promises of defs that are called where no repr is under way (no guards). -/
namespace Jr
open PySem PySem.Spec PyProof.Rows L2
/-- a def's promise, called where no guards stand -/
structure FnG (P : Program) (w : World) (K : PySem.W.Frag) (mg : Str → Option Value) (bas : Heap) (CX : CXT) (k : Nat) (f : Addr) (fd : FuncData) (nms : List Str) (pr : Sp) : Prop where
  len : ∀ vs H Q E, pr vs H Q E → vs.length = nms.length
  run : ∀ (A : Around) (out : List PySem.Env) (s : Shared) (H : Hp) (ar : Args) (us : List Value) (vs : List V) (Q : VK) (E : XK), Room k A → A.guards = some [] → Env0 P w K mg bas A out s H → BindsTo s fd ar (nms.zip us) → Vals vs us → pr vs H Q E →
    codeAny (model P w) A (.call (.ref f) ar) (CR CX out P w H s Q E) s
/-- a def by its body -/
theorem fn_ofG {CX : CXT} {P : Program} {w : World} {K : PySem.W.Frag} {mg : Str → Option Value} {bas : Heap} {k : Nat} {f : Addr} {nam qua : Str} {pms : Arguments} {bod : List Stmt} {sco : Scope} {v1 v2 v3 v4 v5 v6 v7 : Value} {a1 a2 : Option Addr} {slo : Array (Option Value)} {N nms : List Str} {pr : Sp}
    (lk : K.lookup f = some ⟨v7, a2, .func (PySem.W.fnOf nam qua pms bod sco v1 v2 v3 v4 a1 v5 v6), slo⟩) (rec : PySem.W.codeIn K v5 qua = true) (S : FnScope N nms sco) (len : ∀ vs H Q E, pr vs H Q E → vs.length = nms.length)
    (body : ∀ (A : Around) (out : List PySem.Env) (s : Shared) (H : Hp) (vs : List V) (Q : VK) (E : XK), Room k (A.deeper (envOfC qua sco s.heap.objs.size f v5)) → A.guards = some [] → pr vs H Q E →
      ∃ t, PSs (cxOf CX P w K mg bas N qua sco f v5 A out s H E) bod t ∧ t { nx := fun _ H' => Q .non H', rt := Q } (L2.start N vs) H) :
    FnG P w K mg bas CX (k + 1) f (PySem.W.fnOf nam qua pms bod sco v1 v2 v3 v4 a1 v5 v6) nms pr := by
  refine ⟨len, fun A out s H ar us vs Q E room gr env bnd vr hp => ?_⟩
  have nV := len _ _ _ _ hp
  have inK : K.In s.heap := env.mod.kin.keeps fun a ob z => (env.bs a ob z).1
  have noL : s.heap.NoLimit := env.mod.nolimit.keeps fun a ob z => (env.bs a ob z).1
  have kinds : ∀ q ∈ nms.zip us, sco.names.lookup q.1 = some .local ∨ (sco.names.lookup q.1 = some .cell ∧ ((cellsFrom (s.heap.objs.size + 1) sco.names []).lookup q.1).isSome = true) := fun ⟨m, u⟩ hm =>
    (S.par m (List.of_mem_zip hm).1).elim (fun z => .inl z) fun z => .inr ⟨z, PySem.W.cellsFrom_some _ _ _ (.inl z)⟩
  refine codeAny_call_function room.depth (inK _ _ lk) rfl S.co S.gen rfl (PySem.W.codeRec_of inK rec) (bnd _ _ _ _ (wpAny_newFunctionEnv_cells S.kind kinds fun nv hn s1 inC => ?_))
  subst hn
  refine ⟨noL.keeps inC.toInCall.keep, codeAny_func ?_⟩
  obtain ⟨t, ht, ho⟩ := body A out s H vs Q E (room.deeper _) gr hp
  refine wpAny_mono (ht.run [] s1 (L2.start N vs) H _ (inv_start S room.hd env nV vr inC) ho) (fun fl s2 he => ?_) fun _ _ he => he
  have done : ∀ {τ : L2.St} {H' : Hp} {v : V} {u : Value}, Inv (cxOf CX P w K mg bas N qua sco f v5 A out s H E) [] τ H' s2 → RelV v u → Q v H' → CE out P w H s Q u s2 := fun {τ H' v u} J z q => ⟨v, H', J.os, J.bare, J.base, J.hok, z, q⟩
  match fl, he with
  | .ret u, ⟨v, τ, H', J, z, q⟩ => exact done J z q
  | .next, ⟨τ, H', J, q⟩ => exact done (v := V.non) (u := Value.none) J rfl q
  | .brk, ⟨_, _, _, q⟩ => exact q.elim
  | .cont, ⟨_, _, _, q⟩ => exact q.elim
theorem fun_okG {P : Program} {w : World} {K : PySem.W.Frag} {mg : Str → Option Value} {bas : Heap} {x qua : Str} {pms : Arguments} {bod : List Stmt} {sco : Scope} {dvs : List V} {kws : List (Str × V)} {f : Addr} {fd : FuncData} {CX : CXT} {N nms : List Str} {k : Nat} {pr : Sp}
    (F : FunD K x qua pms bod sco dvs kws f fd) (S : FnScope N nms sco) (len : ∀ vs H Q E, pr vs H Q E → vs.length = nms.length)
    (body : ∀ (cd : Value) (A : Around) (out : List PySem.Env) (s : Shared) (H : Hp) (vs : List V) (Q : VK) (E : XK), Room k (A.deeper (envOfC qua sco s.heap.objs.size f cd)) → A.guards = some [] → pr vs H Q E →
      ∃ t, PSs (cxOf CX P w K mg bas N qua sco f cd A out s H E) bod t ∧ t { nx := fun _ H' => Q .non H', rt := Q } (L2.start N vs) H) : FnG P w K mg bas CX (k + 1) f fd nms pr :=
  by
  obtain ⟨_, _, _, _, _, _, _, cd, _, _, rfl, lk, rec, _⟩ := F.ex
  exact fn_ofG lk rec S len fun A out s H vs Q E room gr hp => body cd A out s H vs Q E room gr hp
section
variable {X : Cx} {CX : CXT} {k : Nat} {f : Addr} {fd : FuncData} {nms : List Str} {pr : Sp} {E : L2.St → XK} {x : Str} {p pos : Pos} {e : Expr} {es : List Expr} {t : TA}
theorem run_fnG {pins : List (Addr × Obj)} {σ : L2.St} {H : Hp} {s : Shared} {Q : VK} {us : List Value} {vs : List V} (F : FnG X.prog X.w X.K X.mg X.base CX k f fd nms pr) (room : Room k X.A) (gr : X.A.guards = some []) (bnd : Binds X.K fd nms []) (out : PassesAt CX X σ (E σ)) (I : Inv X pins σ H s) (vr : Vals vs us) (hp : pr vs H Q (E σ)) :
    wpAny (model X.prog X.w) X.A (call (.ref f) us) (EP X pins σ Q) X.xe s := by
  have nU : us.length = nms.length := vr.length.symm.trans (F.len _ _ _ _ hp)
  have bb := bnd s us I.kIn (by simpa using nU)
  simp only [List.append_nil] at bb
  refine wpAny_call (codeAny_mono (F.run X.A X.stack s H ⟨us, []⟩ us vs Q (E σ) room gr I.env0 bb vr hp) fun r s2 z => ?_)
  match r, z with
  | .error e, z => exact out pins H s e s2 I z
  | .ok (.ret u), z => exact I.after z
  | .ok .next, z => exact z.elim
  | .ok .brk, z => exact z.elim
  | .ok .cont, z => exact z.elim
theorem pe_callG (F : FnG X.prog X.w X.K X.mg X.base CX k f fd nms pr) (room : Room k X.A) (gr : X.A.guards = some []) (gl : Gl X x) (hm : X.mg x = some (.ref f)) (hk : PySem.W.keepIn X.K (.ref f) = true) (bnd : Binds X.K fd nms []) (out : ∀ σ, PassesAt CX X σ (E σ)) (ha : PA X (e :: es) t)
    (hdb : (x == ("__debug__" : Str)) = false) (he : starEach (e :: es) X.env = (false, eval e X.env) :: starEach es X.env) (hpl : (backTo pos (starEach es X.env)).any (·.1) = false) : PE X (.Call (.Name x p) (e :: es) [] pos) (tCallS pr E t) :=
  ⟨fun pins s σ H Q I q => wpAny_Call_Name_kw (ld_glob I gl hm (PySem.W.callWith_K (h₀ := X.base) I.ok.mod.kin hk (thn (ha.run pos pins s σ H _ I q) fun us s1 ⟨vs, H1, J, vr, q1⟩ => ⟨J.kIn, run_fnG F room gr bnd (out σ) J vr q1⟩) he hpl) hdb)⟩
end
/-- the law's call -/
theorem law_callG {P : Program} {w : World} {K : PySem.W.Frag} {mg mb : Str → Option Value} {CX : CXT} {k : Nat} {fa a : Addr} {fd : FuncData} {x : Str} {pr : Sp} {s1 : Shared} {vs : List Value} {ns : List Int} (inK : K.In s1.heap) (hns : s1.heap.Ns mainGlobals mg) (hbn : s1.heap.Ns builtinsNs mb)
    (hbb : ∀ y : Str, y ≠ "__name__" → mb y = bootBuiltins y) (lim : s1.heap.NoLimit) (hgen : s1.gens = #[]) (ha : s1.heap.get? a = some { cls := .type "list", data := .seq vs.toArray }) (intz : IntsAre vs ns) (hl : ns.length ≤ sizeLine) (room : Room k callerA)
    (F : ∀ bas : Heap, K.In bas → bas.Ns mainGlobals mg → FnG P w K mg bas CX k fa fd [x] pr) (bnd : ∀ (s : Shared) (u : Value), BindsTo s fd ⟨[u], []⟩ [(x, u)]) (hp : ∀ H : Hp, Only H → SqL K H a (ns.map V.int) → pr [.ref a] H (fun v _ => v = .bl true) fun _ _ _ => False)
    (hout : ∀ H e s2, CX [] H s1 (fun _ _ _ => False) e s2 → False) :
    codeAny (model P w) callerA (.call (.ref fa) ⟨[.ref a], []⟩) (fun r s2 => r = .ok (.ret (.bool true)) ∧ OldK s1.heap s2.heap ∧ s2.os = s1.os ∧ AllBare s2.gens) s1 := by
  have vr := vals_ints intz
  have nV := intz.length
  have main : ∀ H : Hp, Only H → SqL K H a (ns.map V.int) → HOk P w H s1.heap → (∀ b, H b ≠ none → b = a) → (H a ≠ none → K.lookup a = none) →
      codeAny (model P w) callerA (.call (.ref fa) ⟨[.ref a], []⟩) (fun r s2 => r = .ok (.ret (.bool true)) ∧ OldK s1.heap s2.heap ∧ s2.os = s1.os ∧ AllBare s2.gens) s1 := by
    intro H only sq hok one notK
    have free : ∀ {b : Addr} {o : Obj} {es : Array DictEntry} {ep : Nat}, s1.heap.get? b = some o → o.data = .dict es ep → H b = none := fun {b o es ep} z d => by
      cases q : H b with
      | none => rfl
      | some u =>
        have eb : b = a := one b (by rw [q]; nofun)
        subst eb
        rw [ha] at z
        cases z
        cases (show Data.seq vs.toArray _ = Data.dict es ep from d)
    have nsB : ∀ {b : Addr} {m : Str → Option Value}, s1.heap.Ns b m → (hidT s1.heap H).Ns b m := fun {b m} ⟨o, es, ep, z, d, r⟩ => ⟨o, es, ep, hidT_get z (free z d), d, r⟩
    have inB : K.In (hidT s1.heap H) := fun b o z => hidT_get (inK b o z) (by
      cases q : H b with
      | none => rfl
      | some u =>
        have eb : b = a := one b (by rw [q]; nofun)
        subst eb
        have zz := notK (by rw [q]; nofun)
        rw [zz] at z
        cases z)
    have modB : Mod K mg (hidT s1.heap H) := ⟨inB, nsB hns, ⟨mb, nsB hbn, hbb⟩, lim.elim fun mc z => ⟨mc, nsB z.1, z.2⟩⟩
    have env : Env0 P w K mg (hidT s1.heap H) callerA [] s1 H := ⟨rfl, modB, fun b o z => of_hidT z, Nat.le_of_eq (hidT_size _ _), trivial, fun b hb => (nomatch (show b ∈ ([] : List Addr) from hb)), hok, .of_eq hgen⟩
    refine codeAny_mono ((F _ inB (nsB hns)).run callerA [] s1 H ⟨[.ref a], []⟩ [.ref a] [.ref a] _ _ room rfl env (bnd s1 (.ref a)) (.cons rfl .nil) (hp H only sq)) fun r s2 z => ?_
    match r, z with
    | .error e, z => exact (hout H e s2 z).elim
    | .ok .next, z => exact z.elim
    | .ok .brk, z => exact z.elim
    | .ok .cont, z => exact z.elim
    | .ok (.ret u), ⟨v, H', os, bare, un, hok2, r2, q⟩ =>
      have q2 : v = .bl true := q
      subst q2
      obtain rfl : u = Value.bool true := r2
      refine ⟨rfl, OldK.of_keep fun b o z => ?_, os, bare⟩
      cases q : H b with
      | none => exact un.keep b o z q (by intro y; nomatch (show b ∈ ([] : List Addr) from y)) (by simp)
      | some u =>
        rcases only b with y | ⟨ob, xs, y⟩
        · rw [q] at y
          cases y
        · obtain ⟨e1, _⟩ := hok b _ y
          obtain ⟨e2, _⟩ := hok2 b _ (un.frzs b ob _ y)
          rw [z] at e1
          cases e1
          exact e2
  cases hk : K.lookup a with
  | some o =>
    have z := inK a o hk
    rw [ha] at z
    cases z
    exact main (fun _ => none) (fun _ => .inl rfl) (.inr ⟨_, vs.toArray, _, hk, rfl, rfl, rfl, by rw [List.size_toArray, nV]; exact hl, by simpa using vr⟩) (fun b u z => nomatch (show (none : Option HO) = some u from z)) (fun b z => absurd rfl z) fun z => absurd rfl z
  | none =>
    have at1 : ∀ b, (if b = a then some (HO.frz { cls := .type "list", data := .seq vs.toArray } (.lst (ns.map V.int))) else none) ≠ none → b = a := fun b z => by
      by_cases hb : b = a
      · exact hb
      · exact absurd (if_neg hb) z
    refine main (fun b => if b = a then some (.frz { cls := .type "list", data := .seq vs.toArray } (.lst (ns.map V.int))) else none) (fun b => ?_) (.inl (.inr ⟨{ cls := .type "list", data := .seq vs.toArray }, if_pos rfl⟩)) (fun b u z => ?_) at1 fun _ => hk
    · by_cases hb : b = a
      · exact .inr ⟨_, _, if_pos hb⟩
      · exact .inl (if_neg hb)
    · by_cases hb : b = a
      · have y := (if_pos hb).symm.trans z
        cases y
        subst hb
        exact ⟨ha, by rw [List.length_map]; exact hl, vs, _, vr, ha⟩
      · have y := (if_neg hb).symm.trans z
        cases y
/-- a law's end -/
theorem walk_ofG {l : PySem.W.OpenLaw} {n k : Nat} {q : Program} {loose : List Str} {XP : (Str → Option Value) → Heap → Prop} {YP : World → Heap → Prop} {d : DefRec} {CX : CXT} {x : Str} (hn : l.most = some n) (hn2 : n ≤ sizeLine) (hdf : d.params.defaults = []) (room : Room k callerA)
    (F : ∀ (w : World) (mg : Str → Option Value) (fa : Addr) (h : Heap), YP w h → h.Ns mainGlobals mg → mg d.name = some (.ref fa) → ∃ (K : PySem.W.Frag) (fd : FuncData) (pr : Sp), K.In h ∧ (∀ (s : Shared) (u : Value), BindsTo s fd ⟨[u], []⟩ [(x, u)]) ∧
      (∀ (H : Hp) (a : Addr) (ns : List Int), ns.length ≤ n → Only H → SqL K H a (ns.map V.int) → pr [.ref a] H (fun v _ => v = .bl true) fun _ _ _ => False) ∧ ∀ bas : Heap, K.In bas → bas.Ns mainGlobals mg → FnG l.prog w K mg bas CX k fa fd [x] pr)
    (hout : ∀ (H : Hp) (s : Shared) (e : Value) (s2 : Shared), CX [] H s (fun _ _ _ => False) e s2 → False) : PySem.W.WalkO q loose XP YP l.row.toRowW d [] (fun f vs => PySem.call f vs) :=
  Att.attach_call hn hdf fun w s0 s1 mg mb fa o pm cd doc a vs ns G Y ho hd hcd hm obj intz hlen hgen => (F w mg fa _ Y G.T.g hm).elim fun K ⟨fd, pr, inK, bnd, hp, hF⟩ =>
    law_callG inK G.T.g G.T.b G.T.builtins G.T.nolimit hgen obj intz (Nat.le_trans hlen hn2) room hF bnd (fun H only sq => hp H a ns hlen only sq) fun H e s2 => hout H s1 e s2
end Jr

/-! sorted of tuples of which the first is empty. -/
namespace Jr
open PySem PySem.W PySem.SeqAt PySem.Calls PyProof.Rows
section
variable {s : Shared} {prog : Program} {w : World} {E : Value → Shared → Prop} {A : Around}
theorem tup_lt_call {Q : Value → Shared → Prop} {l b : Addr} {xs ys : Array Value} {e r : Nat → Bool} (tl : s.heap.IsTuple l xs) (tb : s.heap.IsTuple b ys) (he : ∀ j (h1 : j < xs.size) (h2 : j < ys.size), EqAt A.in1 s xs[j] ys[j] (e j))
    (hr : ∀ j (h1 : j < xs.size) (h2 : j < ys.size), e j = false → RcLt A.in1 s xs[j] ys[j] (r j)) (q : Q (.bool (firstLt e r (decide (xs.size < ys.size)) (List.range (min xs.size ys.size)))) s) : wpAny (model prog w) A (call (.builtin "tuple.__lt__") [.ref l, .ref b]) Q E s := by
  obtain ⟨⟨c1, d1, t1, m1⟩, g1, k1, n1, z1⟩ := tl
  obtain ⟨⟨c2, d2, t2, m2⟩, g2, k2, n2, z2⟩ := tb
  cases k1
  cases z1
  cases k2
  cases z2
  exact call_meets F.slot_tuple_lt ⟨_, g1, rfl⟩ F.entry_tuple_lt (F.args_tuple_lt_2 _ _) (tuple_ltAt l b xs ys n1 n2 d1 d2 m1 m2 e r) ⟨g1, g2, he, hr, q⟩
theorem oneLt_tup {xs ys : List PyData} {a b : Value} {as bs : List Addr} {Q : Bool → Shared → Prop} (ra : Reads s.heap a (.tuple xs) as) (rb : Reads s.heap b (.tuple ys) bs) (h : alike (.tuple xs) (.tuple ys) = true) (hu : A.units + min (PyData.tuple xs).depth (PyData.tuple ys).depth < cLine)
    (hq : Q (dataLt (.tuple xs) (.tuple ys)) s) : wpAny (model prog w) A (oneLt' true a b) Q E s := by
  have hal : alikeAll xs ys = true := by
    simpa [alike] using h
  cases ra with
  | @tuple l o vs n _ as1 h1 h2 h3 h4 =>
    cases rb with
    | @tuple l2 o2 us n2 _ bs1 k1 k2 k3 k4 =>
      have z1 : vs.size = xs.length := by simpa using ReadsAll.length _ _ _ h4
      have z2 : us.size = ys.length := by simpa using ReadsAll.length _ _ _ k4
      have hq2 : Q (firstLt (pairEq xs ys) (fun j => dataLt (xs.getD j .none) (ys.getD j .none)) (decide (vs.size < us.size)) (List.range (min vs.size us.size))) s := by
        rw [dataLt_tuple, ← firstLt_toks xs ys hal] at hq
        rw [z1, z2]
        exact hq
      rw [oneLt'_eq]
      simp only [if_true]
      refine wpAny_bind (wpAny_cRoomFor (room_here hu) (wpAny_bind ?_))
      refine (wpAny_callSpecialIfBound?_slot (T := "tuple") ⟨_, h1, h2⟩ F.slot_tuple_lt (tup_lt_call (e := pairEq xs ys) (r := fun j => dataLt (xs.getD j .none) (ys.getD j .none)) ⟨_, h1, h2, _, h3⟩ ⟨_, k1, k2, _, k3⟩ (fun j j1 j2 => ?_) (fun j j1 j2 hj => ?_) (wpAny_truthy_bool hq2)))
      · have := eqAt_alikeAll xs ys A.in1 s vs.toList us.toList _ _ h4 k4 hal (room_in hu) j (by simpa using j1) (by simpa using j2)
        simpa using this
      · have := rcLt_alikeAll xs ys A.in1 s vs.toList us.toList _ _ h4 k4 hal (room_in hu) j (by simpa using j1) (by simpa using j2) hj
        simpa using this
/-- the first items of tuples, if they have one -/
theorem firsts_any {M : Model} : ∀ (vs : List Value) (ds : List PyData), EachIs (fun v d => ∃ as, Reads s.heap v d as) vs ds → (∀ d ∈ ds, ∃ xs, d = .tuple xs) → ∃ fs : List (Option Value), fs.length = vs.length ∧ (∀ d0 ds0, ds = d0 :: ds0 → d0 = .tuple [] → ∃ fr, fs = none :: fr) ∧
    ∀ {E : Value → Shared → Prop} {Q : List (Option Value) → Shared → Prop}, Q fs s → wpAny M A (vs.mapM firstOfTuple') Q E s
  | _, _, .nil, _ => ⟨[], rfl, (fun _ _ z => nomatch z), fun q => by rw [List.mapM_nil]; exact wpAny_pure q⟩
  | v :: vs, d :: ds, .cons ⟨as, r⟩ t, ht => by
    obtain ⟨fs, h1, _, h3⟩ := firsts_any (M := M) vs ds t fun d hd => ht d (List.mem_cons_of_mem _ hd)
    obtain ⟨xs, rfl⟩ := ht d List.mem_cons_self
    cases r with
    | @tuple a o us n _ _ g1 g2 g3 g4 =>
      refine ⟨us[0]? :: fs, by rw [List.length_cons, List.length_cons, h1], fun d0 ds0 e e2 => ?_, fun {E Q} q => ?_⟩
      · cases e
        cases e2
        have : us.toList = [] := by cases hu : us.toList with
          | nil => rfl
          | cons x l => rw [hu] at g4; cases g4
        refine ⟨fs, ?_⟩
        rw [← Array.getElem?_toList, this]
        rfl
      · rw [List.mapM_cons]
        refine wpAny_bind ?_
        rw [kas_first_eq]
        refine wpAny_bind (Looks.here (show Looks M s.heap (typeOf (.ref a)) o.cls from (Looks.ld g1).andThen .now) ?_)
        rw [g2, if_neg (by first | decide | simp)]
        refine wpAny_bind (listItems_at g1 g3 (wpAny_pure ?_))
        exact wpAny_bind (h3 (Q := fun bs s2 => wpAny M A (pure (us[0]? :: bs)) Q E s2) (wpAny_pure q))
theorem kind_tup0 {M : Model} {vs : List Value} {ds : List PyData} {ds0 : List PyData} {Q : SortKind → Shared → Prop} (e : EachIs (fun v d => ∃ as, Reads s.heap v d as) vs ds) (ht : ∀ d ∈ ds, ∃ xs, d = .tuple xs) (h0 : ds = .tuple [] :: ds0) (q : Q oneType' s) : wpAny M A (keyKind' vs.toArray) Q E s := by
  obtain ⟨fs, h1, h2, h3⟩ := firsts_any (M := M) (A := A) vs ds e ht
  obtain ⟨fr, rfl⟩ := h2 _ _ h0 rfl
  have hT : ∀ v ∈ vs, Looks M s.heap (typeOf v) (.type "tuple") := fun v hv => by
    obtain ⟨d0, hd, as, r⟩ := e.left v hv
    obtain ⟨xs, rfl⟩ := ht d0 hd
    exact looks_reads r
  obtain ⟨v1, vr, rfl⟩ : ∃ v1 vr, vs = v1 :: vr := by
    cases vs with
    | nil => cases h1
    | cons v1 vr => exact ⟨v1, vr, rfl⟩
  rw [keyKind'_eq, List.mapM_toArray]
  rw [map_eq_pure_bind]
  refine wpAny_bind (wpAny_bind (h3 (wpAny_pure ?_)))
  rw [if_neg (by simp)]
  rw [if_neg (by simp), oneTypeOnly'_eq]
  rw [List.mapM_toArray, map_eq_pure_bind]
  refine wpAny_bind (wpAny_bind (wpAny_bind (kas_mapM (r := Value.type "tuple") _ (fun v hv Q2 hq => (hT v hv).here hq) (wpAny_pure ?_))))
  have e1 : ((List.map (fun _ => Value.type "tuple") (v1 :: vr)).toArray.all fun x => x == Value.type "tuple") = true := by
    simp only [List.all_toArray, List.all_map]
    rw [List.all_eq_true]
    intro _ _
    exact beq_self_eq_true _
  rw [show (List.map (fun _ => Value.type "tuple") (v1 :: vr)).toArray[0]? = some (Value.type "tuple") by simp]
  simp only [e1, if_true]
  exact wpAny_pure (wpAny_pure q)
theorem sorts_tup0 {vs : List Value} {ds ds0 : List PyData} (e : EachIs (fun v d => ∃ as, Reads s.heap v d as) vs ds) (hal : AllAlike ds) (ht : ∀ d ∈ ds, ∃ xs, d = .tuple xs) (h0 : ds = .tuple [] :: ds0) (hu : ∀ d, d ∈ ds → A.units + d.depth < cLine) : SortsAt prog w A s (dataKind s.heap ds) vs := by
  refine ⟨fun v hv => ?_, oneType', fun E x y a b Q ha hb hq => ?_, fun h2 E Q hq => kind_tup0 e ht h0 hq⟩
  · obtain ⟨d0, hd0, as, rd⟩ := e.left v hv
    exact ⟨_, dataKind_some hal hd0 rd⟩
  · obtain ⟨d, as, hd, ra, rfl⟩ := dataKind_inv ha
    obtain ⟨d2, bs, hd2, rb, rfl⟩ := dataKind_inv hb
    obtain ⟨xs, rfl⟩ := ht d hd
    obtain ⟨ys, rfl⟩ := ht d2 hd2
    rw [keyLt'_oneType]
    exact oneLt_tup ra rb (hal _ hd _ hd2) (Nat.lt_of_le_of_lt (Nat.add_le_add_left (Nat.min_le_left _ _) _) (hu _ hd)) hq
theorem sorted_tup0 {β : Type} {R : Value → β → Prop} {enc : β → PyData} {l : Addr} {vs : List Value} {bs : List β} {ds0 : List PyData} {Q : Value → Shared → Prop} (hl : s.heap.IsList l vs.toArray) (e : EachIs R vs bs) (er : EachIs (fun v b => ∃ as, Reads s.heap v (enc b) as) vs bs) (hal : AllAlike (bs.map enc)) (ht : ∀ d ∈ bs.map enc, ∃ xs, d = .tuple xs) (h0 : bs.map enc = .tuple [] :: ds0)
    (hL : bs.length ≤ sizeLine) (hu : ∀ b, b ∈ bs → A.units + 2 + (enc b).depth < cLine) (h : ∀ out, out.length = bs.length → EachIs R out (bs.mergeSort (dataLe false enc)) → Q (.ref (s.heap.objs.size + 1)) { s with heap := sortedAll s.heap vs (List.toArray out) }) : wpAny (model prog w) A (call (.builtin "sorted") [.ref l]) Q E s := by
  have e2 : EachIs (fun v b => ∃ as, Reads (sortingHeap (copyHeap s.heap vs) (s.heap.objs.size + 1) vs) v (enc b) as) vs bs := er.mono fun _ _ z => z.elim fun as r => ⟨as, PyProof.Rows.Reads.keeps (fun _ _ => sorting_copy_old) r⟩
  refine sorted_vals hl (sorts_tup0 (s := { s with heap := sortingHeap (copyHeap s.heap vs) (s.heap.objs.size + 1) vs }) (each_map (R := fun v d => ∃ as, Reads (sortingHeap (copyHeap s.heap vs) (s.heap.objs.size + 1) vs) v d as) enc e2) hal ht h0 (bound_map hu)) (by rw [e.length]; exact hL) ?_
  exact h _ ((sortVals_length false rfl).trans e.length) (sortVals_data false e e2 hal)
end
end Jr

/-! Trees in the abstract heap; what the slots hold. -/
namespace Jr
open PySem PySem.Spec PyProof.Rows L2

/-- an object that may be written -/
def mu : HO → Bool
  | .lst _ => true
  | .dK _ => true
  | .dT _ => true
  | _ => false

/-- the law's script: locked, or an object of the module -/
def SqF (K : PySem.W.Frag) (H : Hp) (a : Addr) (xs : List V) : Prop :=
  (∃ o, H a = some (.frz o (.lst xs))) ∨
    ∃ (o : Obj) (its : Array Value) (n : Nat), K.lookup a = some o ∧ o.cls = .type "list" ∧ o.dict = none ∧ o.data = .seq its n ∧ its.size ≤ sizeLine ∧ Vals xs its.toList
theorem SqF.sql {K : PySem.W.Frag} {H : Hp} {a : Addr} {xs : List V} : SqF K H a xs → SqL K H a xs
  | .inl h => .inl (.inr h)
  | .inr h => .inr h

mutual
/-- v is the tree, no list at an address of Av in it -/
inductive Rp (K : PySem.W.Frag) (H : Hp) (Av : Addr → Prop) : V → Tr → Prop
  | non : Rp K H Av .non .non
  | bl (b : Bool) : Rp K H Av (.bl b) (.bl b)
  | int (i : Int) : Rp K H Av (.int i) (.int i)
  | str (x : Str) : Rp K H Av (.str x) (.str x)
  | tup {a : Addr} {vs : List V} {ts : List Tr} : SqT K H a vs → Rps K H Av vs ts → Rp K H Av (.ref a) (.tup ts)
  | lst {a : Addr} {vs : List V} {ts : List Tr} : H a = some (.lst vs) → ¬ Av a → Rps K H Av vs ts → Rp K H Av (.ref a) (.lst ts)
  | scr {a : Addr} {ns : List Int} : SqF K H a (ns.map V.int) → Rp K H Av (.ref a) (.scr ns)
inductive Rps (K : PySem.W.Frag) (H : Hp) (Av : Addr → Prop) : List V → List Tr → Prop
  | nil : Rps K H Av [] []
  | cons {v : V} {vs : List V} {t : Tr} {ts : List Tr} : Rp K H Av v t → Rps K H Av vs ts → Rps K H Av (v :: vs) (t :: ts)
end
/-- the same, the value itself may stand in Av -/
inductive Ri (K : PySem.W.Frag) (H : Hp) (Av : Addr → Prop) : V → Tr → Prop
  | non : Ri K H Av .non .non
  | bl (b : Bool) : Ri K H Av (.bl b) (.bl b)
  | int (i : Int) : Ri K H Av (.int i) (.int i)
  | str (x : Str) : Ri K H Av (.str x) (.str x)
  | tup {a : Addr} {vs : List V} {ts : List Tr} : SqT K H a vs → Rps K H Av vs ts → Ri K H Av (.ref a) (.tup ts)
  | lst {a : Addr} {vs : List V} {ts : List Tr} : H a = some (.lst vs) → Rps K H Av vs ts → Ri K H Av (.ref a) (.lst ts)
  | scr {a : Addr} {ns : List Int} : SqF K H a (ns.map V.int) → Ri K H Av (.ref a) (.scr ns)

/-- what H holds stands in H' too, but for what may be written at an address of Av -/
def Keeps (Av : Addr → Prop) (H H' : Hp) : Prop := ∀ b o, H b = some o → (mu o = true → ¬ Av b) → H' b = some o
theorem Keeps.of_same {Av : Addr → Prop} {H H' : Hp} (h : Same H H') : Keeps Av H H' := fun b o e _ => h b o e
theorem Keeps.tup {Av : Addr → Prop} {H H' : Hp} (h : Keeps Av H H') {K : PySem.W.Frag} {a : Addr} {vs : List V} (q : SqT K H a vs) : SqT K H' a vs := by
  rcases q with (q | ⟨o, q⟩) | q
  · exact .inl (.inl (h _ _ q (fun z => nomatch z)))
  · exact .inl (.inr ⟨o, h _ _ q (fun z => nomatch z)⟩)
  · exact .inr q
theorem Keeps.scr {Av : Addr → Prop} {H H' : Hp} (h : Keeps Av H H') {K : PySem.W.Frag} {a : Addr} {vs : List V} (q : SqF K H a vs) : SqF K H' a vs := by
  rcases q with ⟨o, q⟩ | q
  · exact .inl ⟨o, h _ _ q (fun z => nomatch z)⟩
  · exact .inr q

section
variable {K : PySem.W.Frag} {H H' : Hp} {Av Av' : Addr → Prop}
theorem Rps.length : ∀ {vs : List V} {ts : List Tr}, Rps K H Av vs ts → vs.length = ts.length
  | _, _, .nil => rfl
  | _, _, .cons _ r => congrArg Nat.succ (Rps.length r)

mutual
theorem Rp.keep (k : Keeps Av H H') : ∀ {t : Tr} {v : V}, Rp K H Av v t → Rp K H' Av v t
  | .non, _, h => by cases h; exact .non
  | .bl _, _, h => by cases h; exact .bl _
  | .int _, _, h => by cases h; exact .int _
  | .str _, _, h => by cases h; exact .str _
  | .tup ts, _, h => by cases h with | tup q r => exact .tup (k.tup q) (Rps.keep k r)
  | .lst ts, _, h => by cases h with | lst q n r => exact .lst (k _ _ q (fun _ => n)) n (Rps.keep k r)
  | .scr _, _, h => by cases h with | scr q => exact .scr (k.scr q)
theorem Rps.keep (k : Keeps Av H H') : ∀ {ts : List Tr} {vs : List V}, Rps K H Av vs ts → Rps K H' Av vs ts
  | [], _, h => by cases h; exact .nil
  | t :: ts, _, h => by cases h with | cons r rs => exact .cons (Rp.keep k r) (Rps.keep k rs)
end
theorem Rp.mono {v : V} {t : Tr} (h : Rp K H Av v t) (s : Same H H') : Rp K H' Av v t := h.keep (.of_same s)
theorem Rps.mono {v : List V} {t : List Tr} (h : Rps K H Av v t) (s : Same H H') : Rps K H' Av v t := h.keep (.of_same s)
mutual
theorem Rp.less (k : ∀ a, Av' a → Av a) : ∀ {t : Tr} {v : V}, Rp K H Av v t → Rp K H Av' v t
  | .non, _, h => by cases h; exact .non
  | .bl _, _, h => by cases h; exact .bl _
  | .int _, _, h => by cases h; exact .int _
  | .str _, _, h => by cases h; exact .str _
  | .tup ts, _, h => by cases h with | tup q r => exact .tup q (Rps.less k r)
  | .lst ts, _, h => by cases h with | lst q n r => exact .lst q (fun z => n (k _ z)) (Rps.less k r)
  | .scr _, _, h => by cases h with | scr q => exact .scr q
theorem Rps.less (k : ∀ a, Av' a → Av a) : ∀ {ts : List Tr} {vs : List V}, Rps K H Av vs ts → Rps K H Av' vs ts
  | [], _, h => by cases h; exact .nil
  | t :: ts, _, h => by cases h with | cons r rs => exact .cons (Rp.less k r) (Rps.less k rs)
end
mutual
/-- an address at which nothing stands is avoided -/
theorem Rp.fresh {p : Addr} (hp : H p = none) : ∀ {t : Tr} {v : V}, Rp K H Av v t → Rp K H (fun a => Av a ∨ a = p) v t
  | .non, _, h => by cases h; exact .non
  | .bl _, _, h => by cases h; exact .bl _
  | .int _, _, h => by cases h; exact .int _
  | .str _, _, h => by cases h; exact .str _
  | .tup ts, _, h => by cases h with | tup q r => exact .tup q (Rps.fresh hp r)
  | .lst ts, _, h => by
    cases h with
    | lst q n r => exact .lst q (fun z => z.elim n fun e => by rw [e, hp] at q; cases q) (Rps.fresh hp r)
  | .scr _, _, h => by cases h with | scr q => exact .scr q
theorem Rps.fresh {p : Addr} (hp : H p = none) : ∀ {ts : List Tr} {vs : List V}, Rps K H Av vs ts → Rps K H (fun a => Av a ∨ a = p) vs ts
  | [], _, h => by cases h; exact .nil
  | t :: ts, _, h => by cases h with | cons r rs => exact .cons (Rp.fresh hp r) (Rps.fresh hp rs)
end
mutual
/-- no list stands where nothing stands -/
theorem Rp.freshAll : ∀ {t : Tr} {v : V}, Rp K H Av v t → Rp K H (fun a => Av a ∨ H a = none) v t
  | .non, _, h => by cases h; exact .non
  | .bl _, _, h => by cases h; exact .bl _
  | .int _, _, h => by cases h; exact .int _
  | .str _, _, h => by cases h; exact .str _
  | .tup ts, _, h => by cases h with | tup q r => exact .tup q (Rps.freshAll r)
  | .lst ts, _, h => by
    cases h with
    | lst q n r => exact .lst q (fun z => z.elim n fun e => by rw [e] at q; cases q) (Rps.freshAll r)
  | .scr _, _, h => by cases h with | scr q => exact .scr q
theorem Rps.freshAll : ∀ {ts : List Tr} {vs : List V}, Rps K H Av vs ts → Rps K H (fun a => Av a ∨ H a = none) vs ts
  | [], _, h => by cases h; exact .nil
  | t :: ts, _, h => by cases h with | cons r rs => exact .cons (Rp.freshAll r) (Rps.freshAll rs)
end
mutual
/-- where no list is, nothing is avoided -/
theorem Rp.im : ∀ {t : Tr} {v : V}, im t = true → Rp K H Av v t → Rp K H Av' v t
  | .non, _, _, h => by cases h; exact .non
  | .bl _, _, _, h => by cases h; exact .bl _
  | .int _, _, _, h => by cases h; exact .int _
  | .str _, _, _, h => by cases h; exact .str _
  | .tup ts, _, i, h => by cases h with | tup q r => exact .tup q (Rps.im i r)
  | .lst ts, _, i, h => by cases i
  | .scr _, _, _, h => by cases h with | scr q => exact .scr q
theorem Rps.im : ∀ {ts : List Tr} {vs : List V}, ims ts = true → Rps K H Av vs ts → Rps K H Av' vs ts
  | [], _, _, h => by cases h; exact .nil
  | t :: ts, _, i, h => by
    have i' : (im t && ims ts) = true := i
    rw [Bool.and_eq_true] at i'
    cases h with | cons r rs => exact .cons (Rp.im i'.1 r) (Rps.im i'.2 rs)
end
theorem Rp.ri {t : Tr} {v : V} (h : Rp K H Av v t) : Ri K H Av v t := by
  cases h with
  | non => exact .non
  | bl _ => exact .bl _
  | int _ => exact .int _
  | str _ => exact .str _
  | tup q r => exact .tup q r
  | lst q n r => exact .lst q r
  | scr q => exact .scr q
theorem Ri.less {t : Tr} {v : V} (k : ∀ a, Av' a → Av a) (h : Ri K H Av v t) : Ri K H Av' v t := by
  cases h with
  | non => exact .non
  | bl _ => exact .bl _
  | int _ => exact .int _
  | str _ => exact .str _
  | tup q r => exact .tup q (r.less k)
  | lst q r => exact .lst q (r.less k)
  | scr q => exact .scr q
theorem Ri.mono {t : Tr} {v : V} (h : Ri K H Av v t) (s : Same H H') : Ri K H' Av v t := by
  cases h with
  | non => exact .non
  | bl _ => exact .bl _
  | int _ => exact .int _
  | str _ => exact .str _
  | tup q r => exact .tup ((Keeps.of_same (Av := Av) s).tup q) (r.mono s)
  | lst q r => exact .lst (s _ _ q) (r.mono s)
  | scr q => exact .scr ((Keeps.of_same (Av := Av) s).scr q)
/-- with its own address not avoided -/
theorem Ri.rp {t : Tr} {v : V} (h : Ri K H Av v t) (n : ∀ a ts, v = .ref a → t = .lst ts → ¬ Av a) : Rp K H Av v t := by
  cases h with
  | non => exact .non
  | bl _ => exact .bl _
  | int _ => exact .int _
  | str _ => exact .str _
  | tup q r => exact .tup q r
  | lst q r => exact .lst q (n _ _ rfl rfl) r
  | scr q => exact .scr q
theorem Rps.get : ∀ {vs : List V} {ts : List Tr}, Rps K H Av vs ts → ∀ {i : Nat} {t : Tr}, ts[i]? = some t → ∃ v, vs[i]? = some v ∧ Rp K H Av v t
  | _, _, .nil, _, _, e => by simp at e
  | _, _, .cons r rs, 0, _, e => by simp at e; subst e; exact ⟨_, rfl, r⟩
  | _, _, .cons r rs, i + 1, t, e => by
    obtain ⟨v, h1, h2⟩ := Rps.get rs (i := i) (t := t) (by simpa using e)
    exact ⟨v, by simpa using h1, h2⟩
theorem Rps.get' {vs : List V} {ts : List Tr} (h : Rps K H Av vs ts) {i : Nat} {v : V} (e : vs[i]? = some v) : ∃ t, ts[i]? = some t ∧ Rp K H Av v t := by
  have hi : i < ts.length := by
    rw [← h.length]
    exact (List.getElem?_eq_some_iff.mp e).1
  obtain ⟨v', h1, h2⟩ := h.get (List.getElem?_eq_getElem hi)
  rw [e] at h1
  cases h1
  exact ⟨_, List.getElem?_eq_getElem hi, h2⟩
theorem Rps.append : ∀ {vs ws : List V} {ts us : List Tr}, Rps K H Av vs ts → Rps K H Av ws us → Rps K H Av (vs ++ ws) (ts ++ us)
  | _, _, _, _, .nil, s => s
  | _, _, _, _, .cons r rs, s => .cons r (Rps.append rs s)
theorem Rps.take : ∀ {vs : List V} {ts : List Tr} (n : Nat), Rps K H Av vs ts → Rps K H Av (vs.take n) (ts.take n)
  | _, _, 0, _ => .nil
  | _, _, _ + 1, .nil => .nil
  | _, _, n + 1, .cons r rs => .cons r (Rps.take n rs)
theorem Rps.drop : ∀ {vs : List V} {ts : List Tr} (n : Nat), Rps K H Av vs ts → Rps K H Av (vs.drop n) (ts.drop n)
  | _, _, 0, r => r
  | _, _, _ + 1, .nil => .nil
  | _, _, n + 1, .cons r rs => Rps.drop n rs
theorem Rps.set {v : V} {t : Tr} (r : Rp K H Av v t) : ∀ {vs : List V} {ts : List Tr} (i : Nat), Rps K H Av vs ts → Rps K H Av (vs.set i v) (ts.set i t)
  | _, _, _, .nil => .nil
  | _, _, 0, .cons _ rs => .cons r rs
  | _, _, i + 1, .cons q rs => .cons q (Rps.set r i rs)
theorem Rps.reverse {vs : List V} {ts : List Tr} (h : Rps K H Av vs ts) : Rps K H Av vs.reverse ts.reverse := by
  induction ts generalizing vs with
  | nil => cases h; exact .nil
  | cons t ts ih =>
    cases h with
    | cons r rs =>
      rw [List.reverse_cons, List.reverse_cons]
      exact (ih rs).append (.cons r .nil)
theorem Rps.rep {vs : List V} {ts : List Tr} (h : Rps K H Av vs ts) : ∀ n : Nat, Rps K H Av (List.replicate n vs).flatten (List.replicate n ts).flatten
  | 0 => .nil
  | n + 1 => by
    rw [List.replicate_succ, List.replicate_succ, List.flatten_cons, List.flatten_cons]
    exact h.append (Rps.rep h n)
theorem Rps.dropLast {vs : List V} {ts : List Tr} (h : Rps K H Av vs ts) : Rps K H Av vs.dropLast ts.dropLast := by
  rw [List.dropLast_eq_take, List.dropLast_eq_take, h.length]
  exact h.take _
theorem Rps.ints : ∀ {ts : List Tr} {vs : List V} {ns : List Int}, intsO ts = some ns → Rps K H Av vs ts → vs = ns.map V.int
  | [], _, _, e, h => by cases h; cases e; rfl
  | .int i :: ts, _, ns, e, h => by
    cases h with
    | cons r rs =>
      cases r
      have e' : (intsO ts).map (i :: ·) = some ns := e
      cases q : intsO ts with
      | none => rw [q] at e'; cases e'
      | some ms =>
        rw [q] at e'
        cases e'
        rw [Rps.ints q rs]
        rfl
  | .non :: _, _, _, e, _ => by cases e
  | .bl _ :: _, _, _, e, _ => by cases e
  | .str _ :: _, _, _, e, _ => by cases e
  | .tup _ :: _, _, _, e, _ => by cases e
  | .lst _ :: _, _, _, e, _ => by cases e
  | .scr _ :: _, _, _, e, _ => by cases e
theorem Rps.bls : ∀ {ts : List Tr} {vs : List V} {ns : List Bool}, blsO ts = some ns → Rps K H Av vs ts → vs = ns.map V.bl
  | [], _, _, e, h => by cases h; cases e; rfl
  | .bl i :: ts, _, ns, e, h => by
    cases h with
    | cons r rs =>
      cases r
      have e' : (blsO ts).map (i :: ·) = some ns := e
      cases q : blsO ts with
      | none => rw [q] at e'; cases e'
      | some ms =>
        rw [q] at e'
        cases e'
        rw [Rps.bls q rs]
        rfl
  | .non :: _, _, _, e, _ => by cases e
  | .int _ :: _, _, _, e, _ => by cases e
  | .str _ :: _, _, _, e, _ => by cases e
  | .tup _ :: _, _, _, e, _ => by cases e
  | .lst _ :: _, _, _, e, _ => by cases e
  | .scr _ :: _, _, _, e, _ => by cases e
theorem Rps.of_ints : ∀ (ns : List Int), Rps K H Av (ns.map V.int) (ns.map Tr.int)
  | [] => .nil
  | _ :: ns => .cons (.int _) (Rps.of_ints ns)
end

/-! ### what an expression hands back -/
/-- it is the tree off Av; if it is a list, it is a new one (nothing stood there in H), its items apart from it -/
def Fr (K : PySem.W.Frag) (H H' : Hp) (Av : Addr → Prop) (w : V) (t : Tr) : Prop :=
  ∀ ts, t = .lst ts → ∃ p vs, w = .ref p ∧ H p = none ∧ H' p = some (.lst vs) ∧ Rps K H' (fun a => Av a ∨ a = p) vs ts
/-- a new list is laid at p -/
theorem fr_new {K : PySem.W.Frag} {H0 H : Hp} {Av : Addr → Prop} {p : Addr} {vs : List V} {ts : List Tr} (sm : Same H0 H) (ok : ∀ a, Av a → H a ≠ none) (hp : H p = none) (r : Rps K H Av vs ts) :
    Rp K (upd H p (.lst vs)) Av (.ref p) (.lst ts) ∧ Fr K H0 (upd H p (.lst vs)) Av (.ref p) (.lst ts) ∧ Same H (upd H p (.lst vs)) := by
  have s1 : Same H (upd H p (.lst vs)) := fun b o e => by
    rw [upd_ne (ne_of_none e hp)]
    exact e
  refine ⟨.lst upd_same (fun z => ok p z hp) (r.mono s1), fun us e => ?_, s1⟩
  cases e
  exact ⟨p, vs, rfl, sm.free hp, upd_same, (r.fresh hp).mono s1⟩
theorem same_new {H : Hp} {p : Addr} {o : HO} (hp : H p = none) : Same H (upd H p o) := fun b u e => by
  rw [upd_ne (ne_of_none e hp)]
  exact e
end Jr

/-! The operators, the comparisons, the built-ins: by trees. -/
namespace Jr
open PySem PySem.Spec PyProof.Rows L2

def boO : BinO → Operator
  | .add => .Add | .sub => .Sub | .mul => .Mult | .fdiv => .FloorDiv | .mod => .Mod | .pow => .Pow | .shl => .LShift | .shr => .RShift | .band => .BitAnd | .bor => .BitOr | .bxor => .BitXor
def coO : CmpO → CmpOp
  | .eq => .Eq | .ne => .NotEq | .lt => .Lt | .le => .LtE | .gt => .Gt | .ge => .GtE | .is => .Is | .isnot => .IsNot | .inn => .In | .notin => .NotIn

/-- two trees in, a tree out -/
def rT2 (K : PySem.W.Frag) (g : Tr → Tr → R Tr) : R2 := fun x y H Q => ∃ Av a b t, Ri K H Av x a ∧ Ri K H Av y b ∧ (∀ a, Av a → H a ≠ none) ∧ g a b = .ok t ∧
  ∀ H' w, Same H H' → Rp K H' Av w t → Fr K H H' Av w t → Q w H'
/-- two trees in, a truth out -/
def rB2 (K : PySem.W.Frag) (g : Tr → Tr → R Bool) : R2 := fun x y H Q => ∃ Av a b t, Ri K H Av x a ∧ Ri K H Av y b ∧ g a b = .ok t ∧ Q (.bl t) H

theorem nofr {K : PySem.W.Frag} {H H' : Hp} {Av : Addr → Prop} {w : V} {t : Tr} (h : ∀ ts, t ≠ .lst ts) : Fr K H H' Av w t := fun ts e => absurd e (h ts)
theorem rif {α : Type} {c : Prop} [Decidable c] {x y : α} (e : (if c then R.ok x else R.no) = .ok y) : c ∧ x = y := by
  by_cases h : c
  · rw [if_pos h] at e
    cases e
    exact ⟨h, rfl⟩
  · rw [if_neg h] at e
    cases e
theorem SZ_eq : SZ = sizeLine := by rw [sizeLine_eq]; rfl
theorem lst_of {K : PySem.W.Frag} {H : Hp} {Av : Addr → Prop} {x : V} {ts : List Tr} (h : Ri K H Av x (.lst ts)) : ∃ a vs, x = .ref a ∧ H a = some (.lst vs) ∧ Rps K H Av vs ts := by
  cases h with
  | lst q r => exact ⟨_, _, rfl, q, r⟩
theorem tup_of {K : PySem.W.Frag} {H : Hp} {Av : Addr → Prop} {x : V} {ts : List Tr} (h : Ri K H Av x (.tup ts)) : ∃ a vs, x = .ref a ∧ SqT K H a vs ∧ Rps K H Av vs ts := by
  cases h with
  | tup q r => exact ⟨_, _, rfl, q, r⟩
theorem scr_of {K : PySem.W.Frag} {H : Hp} {Av : Addr → Prop} {x : V} {ns : List Int} (h : Ri K H Av x (.scr ns)) : ∃ a, x = .ref a ∧ SqF K H a (ns.map V.int) := by
  cases h with
  | scr q => exact ⟨_, rfl, q⟩

section
variable {X : Cx}
/-- an operation on ints alone -/
theorem int_op {f : Value → Value → Sem Value} {C : Int → Int → Prop} {g : Int → Int → Int} {h : Tr → Tr → R Tr} (rule : OpR X f (rI C fun i j => .int (g i j)))
    (hh : ∀ a b t, h a b = .ok t → ∃ i j, a = .int i ∧ b = .int j ∧ C i j ∧ t = .int (g i j)) : OpR X f (rT2 X.K h) := by
  rintro pins s σ H x y v u Q I rx ry ⟨Av, a, b, t, ha, hb, ok, e, q⟩
  obtain ⟨i, j, rfl, rfl, c, rfl⟩ := hh _ _ _ e
  cases ha
  cases hb
  exact rule pins s σ H _ _ v u Q I rx ry ⟨i, j, rfl, rfl, c, q H _ (Same.refl H) (.int _) (nofr fun _ z => nomatch z)⟩
theorem rI0_rI {g : Int → Int → V} {f : Value → Value → Sem Value} (h : OpR X f (rI0 g)) : OpR X f (rI (fun _ _ => True) g) := by
  rintro pins s σ H x y v u Q I rx ry ⟨i, j, e1, e2, _, q⟩
  exact h pins s σ H x y v u Q I rx ry ⟨i, j, e1, e2, q⟩
theorem bin_sub : OpR X (binaryOp .Sub) (rT2 X.K (binT .sub)) := int_op (rI0_rI op_sub) fun a b t e => by
  cases a <;> cases b <;> first | (cases e; exact ⟨_, _, rfl, rfl, trivial, rfl⟩) | cases e
theorem bin_band : OpR X (binaryOp .BitAnd) (rT2 X.K (binT .band)) := int_op (rI0_rI op_and) fun a b t e => by
  cases a <;> cases b <;> first | (cases e; exact ⟨_, _, rfl, rfl, trivial, rfl⟩) | cases e
theorem bin_bor : OpR X (binaryOp .BitOr) (rT2 X.K (binT .bor)) := int_op (rI0_rI op_or) fun a b t e => by
  cases a <;> cases b <;> first | (cases e; exact ⟨_, _, rfl, rfl, trivial, rfl⟩) | cases e
theorem bin_bxor : OpR X (binaryOp .BitXor) (rT2 X.K (binT .bxor)) := int_op (rI0_rI op_xor) fun a b t e => by
  cases a <;> cases b <;> first | (cases e; exact ⟨_, _, rfl, rfl, trivial, rfl⟩) | cases e
theorem powOk_of {a b : Int} (h : powOk a b = true) : CPow a b := by
  unfold powOk at h
  simp only [Bool.and_eq_true, decide_eq_true_eq] at h
  exact ⟨h.1.1, h.1.2, h.2⟩
theorem bin_pow : OpR X (binaryOp .Pow) (rT2 X.K (binT .pow)) := int_op op_pow fun a b t e => by
  cases a <;> cases b <;> first
    | (obtain ⟨c, z⟩ := rif e; exact ⟨_, _, rfl, rfl, powOk_of c, z.symm⟩)
    | cases e
theorem bin_shl : OpR X (binaryOp .LShift) (rT2 X.K (binT .shl)) := int_op op_shl fun a b t e => by
  cases a <;> cases b <;> first
    | (obtain ⟨c, z⟩ := rif e; exact ⟨_, _, rfl, rfl, powOk_of c, z.symm⟩)
    | cases e
theorem bin_shr : OpR X (binaryOp .RShift) (rT2 X.K (binT .shr)) := int_op op_shr fun a b t e => by
  cases a <;> cases b <;> first
    | (obtain ⟨c, z⟩ := rif e; exact ⟨_, _, rfl, rfl, c, z.symm⟩)
    | cases e
/-- % -/
theorem bin_mod : OpR X (binaryOp .Mod) (rT2 X.K (binT .mod)) := int_op op_modN fun a b t e => by
  cases a <;> cases b <;> first
    | cases e
    | skip
  rename_i i j
  have e' : (if 0 < j then R.ok (Tr.int (i % j)) else if j < 0 then R.ok (Tr.int (i.fmod j)) else R.no) = .ok t := e
  by_cases h : 0 < j
  · rw [if_pos h] at e'
    cases e'
    exact ⟨i, j, rfl, rfl, by omega, by rw [Int.fmod_eq_emod_of_nonneg i (by omega)]⟩
  · rw [if_neg h] at e'
    obtain ⟨c, z⟩ := rif e'
    exact ⟨i, j, rfl, rfl, by omega, z.symm⟩
theorem bin_fdiv : OpR X (binaryOp .FloorDiv) (rT2 X.K (binT .fdiv)) := by
  rintro pins s σ H x y v u Q I rx ry ⟨Av, a, b, t, ha, hb, ok, e, q⟩
  cases a <;> cases b <;> first
    | cases e
    | skip
  rename_i i j
  cases ha
  cases hb
  have e' : (if (0 < j && decide (j.natAbs.log2 < 9000)) = true then R.ok (Tr.int (i / j)) else if (j < 0 && decide (j.natAbs < 1073741824)) = true then R.ok (Tr.int (i.fdiv j)) else R.no) = .ok t := e
  by_cases h : (0 < j && decide (j.natAbs.log2 < 9000)) = true
  · rw [if_pos h] at e'
    cases e'
    simp only [Bool.and_eq_true, decide_eq_true_eq] at h
    exact op_fdivW pins s σ H _ _ v u Q I rx ry ⟨i, j, rfl, rfl, ⟨h.1, h.2⟩, q H _ (Same.refl H) (.int _) (nofr fun _ z => nomatch z)⟩
  · rw [if_neg h] at e'
    obtain ⟨c, z⟩ := rif e'
    subst z
    simp only [Bool.and_eq_true, decide_eq_true_eq] at c
    exact op_fdivN pins s σ H _ _ v u Q I rx ry ⟨i, j, rfl, rfl, ⟨by omega, c.2⟩, q H _ (Same.refl H) (.int _) (nofr fun _ z => nomatch z)⟩
theorem bin_add : OpR X (binaryOp .Add) (rT2 X.K (binT .add)) := by
  rintro pins s σ H x y v u Q I rx ry ⟨Av, a, b, t, ha, hb, ok, e, q⟩
  cases a <;> cases b <;> first
    | (exfalso; cases e; done)
    | skip
  · cases ha
    cases hb
    cases e
    exact op_add pins s σ H _ _ v u Q I rx ry ⟨_, _, rfl, rfl, q H _ (Same.refl H) (.int _) (nofr fun _ z => nomatch z)⟩
  · cases ha
    cases hb
    obtain ⟨c, z⟩ := rif e
    subst z
    exact op_add_str pins s σ H _ _ v u Q I rx ry ⟨_, _, rfl, rfl, by rw [← SZ_eq]; exact c, q H _ (Same.refl H) (.str _) (nofr fun _ z => nomatch z)⟩
  · obtain ⟨p1, v1, rfl, q1, r1⟩ := tup_of ha
    obtain ⟨p2, v2, rfl, q2, r2⟩ := tup_of hb
    obtain ⟨c, z⟩ := rif e
    subst z
    refine op_catA pins s σ H _ _ v u Q I rx ry ⟨p1, p2, v1, v2, rfl, rfl, q1, q2, by rw [← SZ_eq, r1.length, r2.length]; exact c, fun z => ?_, fun _ z => ?_, fun _ _ p hp => ?_⟩
    · subst z
      cases r1
      exact q H _ (Same.refl H) (.tup q2 r2) (nofr fun _ z => nomatch z)
    · subst z
      cases r2
      rw [List.append_nil] at q
      exact q H _ (Same.refl H) (.tup q1 r1) (nofr fun _ z => nomatch z)
    · exact q _ _ (same_new hp) (.tup (.inl (.inl upd_same)) ((r1.append r2).mono (same_new hp))) (nofr fun _ z => nomatch z)
  · obtain ⟨p1, v1, rfl, q1, r1⟩ := lst_of ha
    obtain ⟨p2, v2, rfl, q2, r2⟩ := lst_of hb
    obtain ⟨c, z⟩ := rif e
    subst z
    refine op_cat pins s σ H _ _ v u Q I rx ry ⟨p1, p2, v1, v2, rfl, rfl, q1, q2, by rw [← SZ_eq, r1.length, r2.length]; exact c, fun p hp => ?_⟩
    obtain ⟨h1, h2, h3⟩ := fr_new (Same.refl H) ok hp (r1.append r2)
    exact q _ _ h3 h1 h2
theorem small63 {i : Int} (h : smallOk i = true) : (-(2 ^ 62) ≤ i ∧ i < 2 ^ 62) ∧ -(2 ^ 63) ≤ i ∧ i < 2 ^ 63 := by
  unfold smallOk at h
  simp only [Bool.and_eq_true, decide_eq_true_eq] at h
  omega
theorem mul_ints {pins : List (Addr × Obj)} {s : Shared} {σ : L2.St} {H : Hp} {i j : Int} {v u : Value} {Q : VK} (I : Inv X pins σ H s) (rx : RelV (.int i) v) (ry : RelV (.int j) u) (h : mulOk i j = true) (q : Q (.int (i * j)) H) :
    wpAny (model X.prog X.w) X.A (binaryOp .Mult v u) (EP X pins σ Q) X.xe s := by
  unfold mulOk at h
  simp only [Bool.or_eq_true, Bool.and_eq_true, decide_eq_true_eq] at h
  rcases h with h | h
  · exact op_mul pins s σ H _ _ v u Q I rx ry ⟨i, j, rfl, rfl, h, q⟩
  · exact op_mulW pins s σ H _ _ v u Q I rx ry ⟨i, j, rfl, rfl, h, q⟩
theorem tuple_mul1 (l : Addr) (items : Array Value) (n : Nat) (dd : Option Addr) (sl : Array (Option Value)) (u : Tok) :
    Meets (Builtin.«tuple.__mul__» ⟨[.ref l, .int 1 u], []⟩) (fun _ R s => s.heap.get? l = some { cls := .type "tuple", dict := dd, data := .seq items n, slots := sl } ∧
      R (.ok (.ret (Value.ref l))) s) :=
  .of_wp fun prog w A R s h => by
    obtain ⟨hp, g, d, tk, os⟩ := s
    obtain ⟨hl, h⟩ := h
    have f1 := AutoSeq1.idx_int
    wp_walk using wpAny_loadPart' hl
    exact ⟨_, rfl, h⟩
/-- t * 1 is t itself -/
theorem op_repT1 : OpR X (binaryOp .Mult) (fun x y H Q => ∃ l xs, x = .ref l ∧ y = .int 1 ∧ SqT X.K H l xs ∧ Q (.ref l) H) := by
  intro pins s σ H x y v u Q I rx ry h
  obtain ⟨l, xs, rfl, rfl, hT, q⟩ := h
  cases rx
  obtain ⟨t, rfl⟩ := ry
  obtain ⟨its, r, ⟨⟨cls, dd, data, sl⟩, ho, hc, n, hd⟩, hs⟩ := I.tuple hT
  simp only at hc hd
  subst hc hd
  exact wpAny_binaryOp_repeat_ref (T := "tuple") (U := "int") (by decide) ⟨_, ho, rfl⟩ (fun s' => typeIs_int s' 1 t) noFill_tuple_mul F.fills_int_mul F.slot_int_rmul repeat_tuple F.slot_int_index.lookup
    (call_meets F.slot_int_rmul (typeIs_int s 1 t) F.entry_int_rmul (F.args_int_rmul_2 _ _) (int_rmul_tuple 1 t l its.toArray n dd sl)
      ⟨ho, rfl, ⟨_, ho, rfl⟩, call_meets F.slot_tuple_mul ⟨_, ho, rfl⟩ F.entry_tuple_mul (F.args_tuple_mul_2 _ _) (tuple_mul1 l its.toArray n dd sl t) ⟨ho, .ref l, H, I, rfl, q⟩⟩)
theorem bin_mul : OpR X (binaryOp .Mult) (rT2 X.K (binT .mul)) := by
  rintro pins s σ H x y v u Q I rx ry ⟨Av, a, b, t, ha, hb, ok, e, q⟩
  cases a <;> cases b <;> first
    | (exfalso; cases e; done)
    | skip
  · cases ha
    cases hb
    obtain ⟨c, z⟩ := rif e
    subst z
    exact mul_ints I rx ry c (q H _ (Same.refl H) (.int _) (nofr fun _ z => nomatch z))
  · obtain ⟨p1, v1, rfl, q1, r1⟩ := tup_of ha
    cases hb
    obtain ⟨c, z⟩ := rif e
    subst z
    simp only [Bool.and_eq_true, decide_eq_true_eq, Bool.not_eq_true'] at c
    have hne : v1 ≠ [] := fun z => by
      subst z
      cases r1
      exact absurd c.1.1.1 (by decide)
    rename_i kk
    by_cases hk1 : kk = 1
    · subst hk1
      refine op_repT1 pins s σ H _ _ v u Q I rx ry ⟨p1, v1, rfl, rfl, q1, q H _ (Same.refl H) ?_ (nofr fun _ z => nomatch z)⟩
      have e1 : ∀ l : List Tr, (List.replicate (1 : Int).toNat l).flatten = l := fun l => by
        show (List.replicate 1 l).flatten = l
        simp
      rw [e1]
      exact .tup q1 r1
    have hk2 := c.1.1.2
    refine op_repT pins s σ H _ _ v u Q I rx ry ⟨p1, _, v1, rfl, rfl, q1, hne, by omega, c.1.2, by rw [r1.length]; exact c.2, fun p hp => ?_⟩
    exact q _ _ (same_new hp) (.tup (.inl (.inl upd_same)) ((r1.rep _).mono (same_new hp))) (nofr fun _ z => nomatch z)
  · obtain ⟨p1, v1, rfl, q1, r1⟩ := lst_of ha
    cases hb
    obtain ⟨c, z⟩ := rif e
    subst z
    simp only [Bool.and_eq_true, decide_eq_true_eq] at c
    obtain ⟨_, c1, c2⟩ := small63 c.1
    refine op_rep pins s σ H _ _ v u Q I rx ry ⟨p1, _, v1, rfl, rfl, q1, c1, c2, by rw [← SZ_eq, r1.length]; exact c.2, fun p hp => ?_⟩
    obtain ⟨h1, h2, h3⟩ := fr_new (Same.refl H) ok hp (r1.rep _)
    exact q _ _ h3 h1 h2
theorem bin_ok (o : BinO) : OpR X (binaryOp (boO o)) (rT2 X.K (binT o)) := by
  cases o
  · exact bin_add
  · exact bin_sub
  · exact bin_mul
  · exact bin_fdiv
  · exact bin_mod
  · exact bin_pow
  · exact bin_shl
  · exact bin_shr
  · exact bin_band
  · exact bin_bor
  · exact bin_bxor
end

/-! ### trees as the library's data -/
section
variable {K : PySem.W.Frag} {H : Hp} {Av : Addr → Prop}
mutual
theorem Rp.dp : ∀ {t : Tr} {v : V} {n : Nat}, shB n t = true → Rp K H Av v t → Dp K H v (toPy t)
  | .non, _, _, _, h => by cases h; exact .non
  | .bl _, _, _, _, h => by cases h; exact .bl _
  | .int _, _, _, _, h => by cases h; exact .int _
  | .str _, _, _, _, h => by cases h; exact .str _
  | .tup ts, _, n + 1, i, h => by cases h with | tup q r => exact .tup q (Rps.dp (n := n) i r)
  | .lst ts, _, n + 1, i, h => by cases h with | lst q _ r => exact .lst (.inl (.inl q)) (Rps.dp (n := n) i r)
  | .tup ts, _, 0, i, _ => by cases i
  | .lst ts, _, 0, i, _ => by cases i
  | .scr _, _, 0, i, _ => by cases i
  | .scr _, _, _ + 1, i, _ => by cases i
theorem Rps.dp : ∀ {ts : List Tr} {vs : List V} {n : Nat}, shBs n ts = true → Rps K H Av vs ts → DpAll K H vs (toPys ts)
  | [], _, _, _, h => by cases h; exact .nil
  | t :: ts, _, n, i, h => by
    have i' : (shB n t && shBs n ts) = true := i
    rw [Bool.and_eq_true] at i'
    cases h with | cons r rs => exact .cons (Rp.dp i'.1 r) (Rps.dp i'.2 rs)
end
theorem Ri.dp {t : Tr} {v : V} (i : sh t = true) (h : Ri K H Av v t) : Dp K H v (toPy t) := by
  cases h with
  | non => exact .non
  | bl _ => exact .bl _
  | int _ => exact .int _
  | str _ => exact .str _
  | tup q r => exact .tup q (Rps.dp (n := 59) i r)
  | lst q r => exact .lst (.inl (.inl q)) (Rps.dp (n := 59) i r)
  | scr q => cases i
end
mutual
theorem canLay_sh : ∀ {t : Tr} {n : Nat}, shB n t = true → PyData.canLay0 (toPy t) = true ∧ PyData.depth (toPy t) ≤ n
  | .non, _, _ => ⟨by simp only [toPy, PyData.canLay0], by simp only [toPy, PyData.depth]; omega⟩
  | .bl _, _, _ => ⟨by simp only [toPy, PyData.canLay0], by simp only [toPy, PyData.depth]; omega⟩
  | .int _, _, _ => ⟨by simp only [toPy, PyData.canLay0], by simp only [toPy, PyData.depth]; omega⟩
  | .str x, n, h => ⟨by
      simp only [toPy, PyData.canLay0]
      cases n <;> exact h, by simp only [toPy, PyData.depth]; omega⟩
  | .tup ts, n + 1, i => by
    obtain ⟨h1, h2⟩ := canLay_shs (n := n) (ts := ts) i
    exact ⟨by simp only [toPy, PyData.canLay0]; exact h1, by simp only [toPy, PyData.depth]; omega⟩
  | .lst ts, n + 1, i => by
    obtain ⟨h1, h2⟩ := canLay_shs (n := n) (ts := ts) i
    exact ⟨by simp only [toPy, PyData.canLay0]; exact h1, by simp only [toPy, PyData.depth]; omega⟩
  | .tup ts, 0, i => by cases i
  | .lst ts, 0, i => by cases i
  | .scr _, 0, i => by cases i
  | .scr _, _ + 1, i => by cases i
theorem canLay_shs : ∀ {ts : List Tr} {n : Nat}, shBs n ts = true → PyData.canLayAll0 (toPys ts) = true ∧ PyData.depthAll (toPys ts) ≤ n
  | [], _, _ => ⟨by simp only [toPys, PyData.canLayAll0], by simp only [toPys, PyData.depthAll]; omega⟩
  | t :: ts, n, i => by
    have i' : (shB n t && shBs n ts) = true := i
    rw [Bool.and_eq_true] at i'
    obtain ⟨h1, h2⟩ := canLay_sh i'.1
    obtain ⟨h3, h4⟩ := canLay_shs i'.2
    exact ⟨by simp only [toPys, PyData.canLayAll0]; rw [h1, h3]; rfl, by simp only [toPys, PyData.depthAll]; omega⟩
end
theorem shaped_sh {t : Tr} (h : sh t = true) : SeqAt.shaped (toPy t) = true := by
  obtain ⟨h1, h2⟩ := canLay_sh (n := 60) h
  show ((toPy t).canLay0 && decide ((toPy t).depth ≤ 64)) = true
  rw [h1, decide_eq_true (by omega)]
  rfl
mutual
theorem eqv_py : ∀ (a b : Tr) {n m : Nat}, shB n a = true → shB m b = true → PyData.eqv (toPy a) (toPy b) = eqv a b
  | .non, b, _, m, _, hb => by cases b <;> first | (simp only [toPy, PyData.eqv, eqv]; done) | (cases m <;> cases hb)
  | .bl _, b, _, m, _, hb => by cases b <;> first | (simp only [toPy, PyData.eqv, eqv]; done) | (cases m <;> cases hb)
  | .int _, b, _, m, _, hb => by cases b <;> first | (simp only [toPy, PyData.eqv, eqv]; done) | (cases m <;> cases hb)
  | .str _, b, _, m, _, hb => by cases b <;> first | (simp only [toPy, PyData.eqv, eqv]; done) | (cases m <;> cases hb)
  | .tup ts, b, n + 1, m, ha, hb => by
    cases b with
    | tup us =>
      cases m with
      | zero => cases hb
      | succ m =>
        simp only [toPy, PyData.eqv, eqv]
        exact eqvs_py ts us (n := n) (m := m) ha hb
    | scr _ => cases m <;> cases hb
    | _ => simp only [toPy, PyData.eqv, eqv]
  | .lst ts, b, n + 1, m, ha, hb => by
    cases b with
    | lst us =>
      cases m with
      | zero => cases hb
      | succ m =>
        simp only [toPy, PyData.eqv, eqv]
        exact eqvs_py ts us (n := n) (m := m) ha hb
    | scr _ => cases m <;> cases hb
    | _ => simp only [toPy, PyData.eqv, eqv]
  | .tup ts, _, 0, _, i, _ => by cases i
  | .lst ts, _, 0, _, i, _ => by cases i
  | .scr _, _, 0, _, i, _ => by cases i
  | .scr _, _, _ + 1, _, i, _ => by cases i
theorem eqvs_py : ∀ (as bs : List Tr) {n m : Nat}, shBs n as = true → shBs m bs = true → PyData.eqvAll (toPys as) (toPys bs) = eqvs as bs
  | [], [], _, _, _, _ => by simp only [toPys, PyData.eqvAll, eqvs]
  | [], _ :: _, _, _, _, _ => by simp only [toPys, PyData.eqvAll, eqvs]
  | _ :: _, [], _, _, _, _ => by simp only [toPys, PyData.eqvAll, eqvs]
  | a :: as, b :: bs, n, m, ha, hb => by
    have ha' : (shB n a && shBs n as) = true := ha
    have hb' : (shB m b && shBs m bs) = true := hb
    rw [Bool.and_eq_true] at ha' hb'
    simp only [toPys, PyData.eqvAll, eqvs]
    rw [eqv_py a b ha'.1 hb'.1, eqvs_py as bs ha'.2 hb'.2]
end

/-! ### comparisons -/
section
variable {X : Cx}
theorem two_sh {a b : Tr} {r : Bool} (e : eqT a b = .ok r) : (∃ x y, a = .str x ∧ b = .str y ∧ (x == y) = r) ∨ sh a = true ∧ sh b = true ∧ eqv a b = r := by
  rcases eqT_cases a b with ⟨x, y, rfl, rfl⟩ | h
  · exact .inl ⟨x, y, rfl, rfl, by cases e; rfl⟩
  · rw [h] at e
    obtain ⟨c, z⟩ := rif e
    rw [Bool.and_eq_true] at c
    exact .inr ⟨c.1, c.2, z⟩
theorem dec_strs {x y : Str} : decide (V.str x = V.str y) = (x == y) := by
  rw [Bool.eq_iff_iff, decide_eq_true_iff, beq_iff_eq]
  exact ⟨fun h => by cases h; rfl, fun h => by rw [h]⟩
theorem cmp_eq (hu : X.A.units + 64 < cLine) : OpR X (compareOp .Eq) (rB2 X.K (cmpT .eq)) := by
  rintro pins s σ H x y v u Q I rx ry ⟨Av, a, b, t, ha, hb, e, q⟩
  rcases two_sh (show eqT a b = .ok t from e) with ⟨i, j, rfl, rfl, h3⟩ | ⟨h1, h2, h3⟩
  · cases ha
    cases hb
    refine op_eq pins s σ H _ _ v u Q I rx ry ⟨rfl, ?_⟩
    rw [dec_strs, h3]
    exact q
  subst h3
  refine op_eqD hu pins s σ H x y v u Q I rx ry ⟨_, _, ha.dp h1, hb.dp h2, shaped_sh h1, shaped_sh h2, ?_⟩
  rw [eqv_py a b (n := 60) (m := 60) h1 h2]
  exact q
theorem notT {r : R Bool} {t : Bool} (e : (r.bind fun r => R.ok (!r)) = .ok t) : r = .ok (!t) := by
  cases r with
  | ok b =>
    have e' : R.ok (!b) = .ok t := e
    cases e'
    rw [Bool.not_not]
  | ex c => cases e
  | no => cases e
theorem cmp_ne (hu : X.A.units + 64 < cLine) : OpR X (compareOp .NotEq) (rB2 X.K (cmpT .ne)) := by
  rintro pins s σ H x y v u Q I rx ry ⟨Av, a, b, t, ha, hb, e, q⟩
  rcases two_sh (notT (show ((eqT a b).bind fun r => R.ok (!r)) = .ok t from e)) with ⟨i, j, rfl, rfl, h3⟩ | ⟨h1, h2, h3⟩
  · cases ha
    cases hb
    refine op_ne pins s σ H _ _ v u Q I rx ry ⟨rfl, ?_⟩
    rw [dec_strs, h3, Bool.not_not]
    exact q
  refine op_neD hu pins s σ H x y v u Q I rx ry ⟨_, _, ha.dp h1, hb.dp h2, shaped_sh h1, shaped_sh h2, ?_⟩
  rw [eqv_py a b (n := 60) (m := 60) h1 h2, h3, Bool.not_not]
  exact q
theorem ord_of {f : Tr → Tr → Bool} {a b : Tr} {r : Bool} (e : ordT f a b = .ok r) : PySem.W.alike (toPy a) (toPy b) = true ∧ toPy a ≠ .none ∧ sh a = true ∧ sh b = true ∧ f a b = r := by
  obtain ⟨c, z⟩ := rif (show (if (alk a b && notNon a && sh a && sh b) = true then R.ok (f a b) else R.no) = .ok r from e)
  simp only [Bool.and_eq_true] at c
  refine ⟨c.1.1.1, fun q => ?_, c.1.2, c.2, z⟩
  have hn := c.1.1.2
  cases a <;> first | (simp only [toPy] at q; cases q; done) | cases hn
theorem min_room {A : Around} {a b : Tr} (h : sh a = true) (hu : A.units + 64 < cLine) : A.units + min (toPy a).depth (toPy b).depth < cLine := by
  obtain ⟨_, h2⟩ := canLay_sh (n := 60) h
  have := Nat.min_le_left (toPy a).depth (toPy b).depth
  omega
/-- an order by its rule on ints and on data -/
theorem ord_op {op : CmpOp} {f : Tr → Tr → Bool} {g : Int → Int → Bool} {h : Tr → Tr → R Bool} (hu : X.A.units + 64 < cLine) (r1 : OpR X (compareOp op) (rI0 fun i j => .bl (g i j)))
    (r2 : ∀ (s : Shared) (u v : Value) (a b : Tr) (as bs : List Addr) (Q : Value → Shared → Prop), Reads s.heap u (toPy a) as → Reads s.heap v (toPy b) bs → PySem.W.alike (toPy a) (toPy b) = true → toPy a ≠ .none → X.A.units + min (toPy a).depth (toPy b).depth < cLine → Q (.bool (f a b)) s →
      wpAny (model X.prog X.w) X.A (compareOp op u v) Q X.xe s)
    (hh : ∀ a b, (∃ i j, a = .int i ∧ b = .int j ∧ h a b = .ok (g i j)) ∨ h a b = ordT f a b) : OpR X (compareOp op) (rB2 X.K h) := by
  rintro pins s σ H x y v u Q I rx ry ⟨Av, a, b, t, ha, hb, e, q⟩
  rcases hh a b with ⟨i, j, rfl, rfl, e2⟩ | e2
  · rw [e2] at e
    cases e
    cases ha
    cases hb
    exact r1 pins s σ H _ _ v u Q I rx ry ⟨i, j, rfl, rfl, q⟩
  · rw [e2] at e
    obtain ⟨h1, h2, h3, h4, h5⟩ := ord_of e
    subst h5
    obtain ⟨as, d1⟩ := Dp.reads I _ x v (ha.dp h3) rx
    obtain ⟨bs, d2⟩ := Dp.reads I _ y u (hb.dp h4) ry
    exact r2 s v u a b as bs _ d1 d2 h1 h2 (min_room h3 hu) ⟨.bl _, H, I, rfl, q⟩
theorem cmp_lt (hu : X.A.units + 64 < cLine) : OpR X (compareOp .Lt) (rB2 X.K (cmpT .lt)) :=
  ord_op (f := ltv) hu op_lt (fun s u v a b as bs Q r1 r2 h1 h2 h3 q => PySem.W.lt_data r1 r2 h1 h2 h3 q) fun a b => by
    cases a <;> cases b <;> first | exact .inl ⟨_, _, rfl, rfl, rfl⟩ | exact .inr rfl
theorem cmp_le (hu : X.A.units + 64 < cLine) : OpR X (compareOp .LtE) (rB2 X.K (cmpT .le)) :=
  ord_op (f := fun a b => !ltv b a) hu op_le (fun s u v a b as bs Q r1 r2 h1 h2 h3 q => PySem.W.le_data r1 r2 h1 h2 h3 q) fun a b => by
    cases a <;> cases b <;> first | exact .inl ⟨_, _, rfl, rfl, rfl⟩ | exact .inr rfl
theorem cmp_gt (hu : X.A.units + 64 < cLine) : OpR X (compareOp .Gt) (rB2 X.K (cmpT .gt)) :=
  ord_op (f := fun a b => ltv b a) hu op_gt (fun s u v a b as bs Q r1 r2 h1 h2 h3 q => PySem.W.gt_data r1 r2 h1 h2 h3 q) fun a b => by
    cases a <;> cases b <;> first | exact .inl ⟨_, _, rfl, rfl, rfl⟩ | exact .inr rfl
theorem cmp_ge (hu : X.A.units + 64 < cLine) : OpR X (compareOp .GtE) (rB2 X.K (cmpT .ge)) :=
  ord_op (f := fun a b => !ltv a b) hu op_ge (fun s u v a b as bs Q r1 r2 h1 h2 h3 q => PySem.W.ge_data r1 r2 h1 h2 h3 q) fun a b => by
    cases a <;> cases b <;> first | exact .inl ⟨_, _, rfl, rfl, rfl⟩ | exact .inr rfl
theorem non_iff {K : PySem.W.Frag} {H : Hp} {Av : Addr → Prop} {v : V} {t : Tr} (h : Ri K H Av v t) : decide (v = .non) = !notNon t := by
  cases h <;> simp [notNon]
theorem isT_of {a b : Tr} {t : Bool} (e : isT a b = .ok t) : (∃ x y, a = .bl x ∧ b = .bl y ∧ t = (x == y)) ∨ (b = .non ∧ t = !notNon a) := by
  cases a <;> cases b <;> first
    | (cases e; exact .inr ⟨rfl, rfl⟩)
    | (cases e; exact .inl ⟨_, _, rfl, rfl, rfl⟩)
    | cases e
theorem cmp_is : OpR X (compareOp .Is) (rB2 X.K (cmpT .is)) := by
  rintro pins s σ H x y v u Q I rx ry ⟨Av, a, b, t, ha, hb, e, q⟩
  rcases isT_of (show isT a b = .ok t from e) with ⟨i, j, rfl, rfl, rfl⟩ | ⟨rfl, z⟩
  · cases ha
    cases hb
    refine op_is_bl pins s σ H _ _ v u Q I rx ry ⟨i, j, rfl, rfl, ?_⟩
    rw [show decide (i = j) = (i == j) by cases i <;> cases j <;> rfl]
    exact q
  · cases hb
    refine op_isN pins s σ H _ _ v u Q I rx ry ⟨rfl, ?_⟩
    rw [non_iff ha, ← z]
    exact q
theorem cmp_isnot : OpR X (compareOp .IsNot) (rB2 X.K (cmpT .isnot)) := by
  rintro pins s σ H x y v u Q I rx ry ⟨Av, a, b, t, ha, hb, e, q⟩
  rcases isT_of (notT (show ((isT a b).bind fun r => R.ok (!r)) = .ok t from e)) with ⟨i, j, rfl, rfl, z⟩ | ⟨rfl, z⟩
  · cases ha
    cases hb
    refine op_isnot_bl pins s σ H _ _ v u Q I rx ry ⟨i, j, rfl, rfl, ?_⟩
    rw [show decide (i = j) = (i == j) by cases i <;> cases j <;> rfl, ← z, Bool.not_not]
    exact q
  · cases hb
    refine op_notN pins s σ H _ _ v u Q I rx ry ⟨rfl, ?_⟩
    rw [non_iff ha, ← z, Bool.not_not]
    exact q
theorem any_py {d : Tr} {m : Nat} (hd : shB m d = true) : ∀ {ts : List Tr} {n : Nat}, shBs n ts = true → ((toPys ts).any fun z => PyData.eqv z (toPy d)) = ts.any fun z => eqv z d
  | [], _, _ => rfl
  | t :: ts, n, i => by
    have i' : (shB n t && shBs n ts) = true := i
    rw [Bool.and_eq_true] at i'
    rw [toPys, List.any_cons, List.any_cons, any_py hd i'.2, eqv_py t d i'.1 hd]
theorem inn_of {a b : Tr} {t : Bool} (e : innT a b = .ok t) : ∃ ts, (b = .lst ts ∨ b = .tup ts) ∧ sh a = true ∧ sh b = true ∧ t = ts.any fun z => eqv z a := by
  cases b <;> first
    | cases e
    | skip
  · obtain ⟨c, z⟩ := rif e
    rw [Bool.and_eq_true] at c
    exact ⟨_, .inr rfl, c.1, c.2, z.symm⟩
  · obtain ⟨c, z⟩ := rif e
    rw [Bool.and_eq_true] at c
    exact ⟨_, .inl rfl, c.1, c.2, z.symm⟩
theorem inn_any {a b : Tr} {ts : List Tr} (hb : b = .lst ts ∨ b = .tup ts) (h1 : sh a = true) (h2 : sh b = true) : ((toPys ts).any fun z => PyData.eqv z (toPy a)) = ts.any fun z => eqv z a := by
  rcases hb with rfl | rfl <;> exact any_py (m := 60) (n := 59) h1 h2
theorem room_in {A : Around} {a b : Tr} {ts : List Tr} (hb : b = .lst ts ∨ b = .tup ts) (h : sh a = true) (hu : A.units + 64 < cLine) : A.units + 1 + min (PyData.depthAll (toPys ts)) (toPy a).depth < cLine := by
  obtain ⟨_, h2⟩ := canLay_sh (n := 60) h
  have := Nat.min_le_right (PyData.depthAll (toPys ts)) (toPy a).depth
  omega
theorem canAll {b : Tr} {ts : List Tr} (hb : b = .lst ts ∨ b = .tup ts) (h : sh b = true) : PyData.canLayAll0 (toPys ts) = true := by
  rcases hb with rfl | rfl <;> exact (canLay_shs (n := 59) h).1
theorem cmp_in (hu : X.A.units + 64 < cLine) : OpR X (compareOp .In) (rB2 X.K (cmpT .inn)) := by
  rintro pins s σ H x y v u Q I rx ry ⟨Av, a, b, t, ha, hb, e, q⟩
  obtain ⟨ts, hts, h1, h2, h3⟩ := inn_of (show innT a b = .ok t from e)
  obtain ⟨as, d1⟩ := Dp.reads I _ x v (ha.dp h1) rx
  obtain ⟨bs, d2⟩ := Dp.reads I _ y u (hb.dp h2) ry
  have hq : EP X pins σ Q (.bool ((toPys ts).any fun z => PyData.eqv z (toPy a))) s := ⟨.bl _, H, I, rfl, by rw [inn_any hts h1 h2, ← h3]; exact q⟩
  rcases hts with rfl | rfl
  · exact SeqAt.in_list_reads d2 d1 (canAll (.inl rfl) h2) (canLay_sh (n := 60) h1).1 (room_in (.inl rfl) h1 hu) hq
  · exact SeqAt.in_tuple_reads d2 d1 (canAll (.inr rfl) h2) (canLay_sh (n := 60) h1).1 (room_in (.inr rfl) h1 hu) hq
theorem cmp_notin (hu : X.A.units + 64 < cLine) : OpR X (compareOp .NotIn) (rB2 X.K (cmpT .notin)) := by
  rintro pins s σ H x y v u Q I rx ry ⟨Av, a, b, t, ha, hb, e, q⟩
  obtain ⟨ts, hts, h1, h2, h3⟩ := inn_of (notT (show ((innT a b).bind fun r => R.ok (!r)) = .ok t from e))
  obtain ⟨as, d1⟩ := Dp.reads I _ x v (ha.dp h1) rx
  obtain ⟨bs, d2⟩ := Dp.reads I _ y u (hb.dp h2) ry
  have hq : EP X pins σ Q (.bool (!(toPys ts).any fun z => PyData.eqv z (toPy a))) s := ⟨.bl _, H, I, rfl, by rw [inn_any hts h1 h2, ← h3, Bool.not_not]; exact q⟩
  rcases hts with rfl | rfl
  · exact SeqAt.notIn_list_reads d2 d1 (canAll (.inl rfl) h2) (canLay_sh (n := 60) h1).1 (room_in (.inl rfl) h1 hu) hq
  · exact SeqAt.notIn_tuple_reads d2 d1 (canAll (.inr rfl) h2) (canLay_sh (n := 60) h1).1 (room_in (.inr rfl) h1 hu) hq
theorem cmp_ok (hu : X.A.units + 64 < cLine) (o : CmpO) : OpR X (compareOp (coO o)) (rB2 X.K (cmpT o)) := by
  cases o
  · exact cmp_eq hu
  · exact cmp_ne hu
  · exact cmp_lt hu
  · exact cmp_le hu
  · exact cmp_gt hu
  · exact cmp_ge hu
  · exact cmp_is
  · exact cmp_isnot
  · exact cmp_in hu
  · exact cmp_notin hu
end
end Jr

/-! The calls of built-ins, subscripts, slices, truth: by trees. -/
namespace Jr
open PySem PySem.Spec PyProof.Rows L2

inductive Ris (K : PySem.W.Frag) (H : Hp) (Av : Addr → Prop) : List V → List Tr → Prop
  | nil : Ris K H Av [] []
  | cons {v : V} {vs : List V} {t : Tr} {ts : List Tr} : Ri K H Av v t → Ris K H Av vs ts → Ris K H Av (v :: vs) (t :: ts)
theorem Ris.one {K : PySem.W.Frag} {H : Hp} {Av : Addr → Prop} {vs : List V} {t : Tr} (h : Ris K H Av vs [t]) : ∃ v, vs = [v] ∧ Ri K H Av v t := by
  cases h with
  | cons r rs => cases rs; exact ⟨_, rfl, r⟩
theorem Ris.two {K : PySem.W.Frag} {H : Hp} {Av : Addr → Prop} {vs : List V} {t u : Tr} (h : Ris K H Av vs [t, u]) : ∃ v w, vs = [v, w] ∧ Ri K H Av v t ∧ Ri K H Av w u := by
  cases h with
  | cons r rs =>
    obtain ⟨w, rfl, r2⟩ := rs.one
    exact ⟨_, _, rfl, r, r2⟩
theorem Ris.mono {K : PySem.W.Frag} {H H' : Hp} {Av : Addr → Prop} (s : Same H H') : ∀ {vs : List V} {ts : List Tr}, Ris K H Av vs ts → Ris K H' Av vs ts
  | _, _, .nil => .nil
  | _, _, .cons r rs => .cons (r.mono s) (Ris.mono s rs)
theorem Ris.less {K : PySem.W.Frag} {H : Hp} {Av Av' : Addr → Prop} (k : ∀ a, Av' a → Av a) : ∀ {vs : List V} {ts : List Tr}, Ris K H Av vs ts → Ris K H Av' vs ts
  | _, _, .nil => .nil
  | _, _, .cons r rs => .cons (r.less k) (Ris.less k rs)

def rBi (K : PySem.W.Frag) (b : Bi) : List V → Hp → VK → Prop := fun vs H Q => ∃ Av ts t, Ris K H Av vs ts ∧ (∀ a, Av a → H a ≠ none) ∧ biT b ts = .ok t ∧
  ∀ H' w, Same H H' → Rp K H' Av w t → Fr K H H' Av w t → Q w H'

theorem one_of {α : Type} {ts : List Tr} {f : Tr → R α} {r : α} (h : (match ts with
    | [t] => f t
    | _ => .no) = .ok r) : ∃ t, ts = [t] ∧ f t = .ok r := by
  match ts, h with
  | [t], h => exact ⟨t, rfl, h⟩

theorem ofO_ok {α : Type} {o : Option α} {a : α} (h : ofO o = .ok a) : o = some a := by
  cases o with
  | none => cases h
  | some b => cases h; rfl
theorem bind_ok {α β : Type} {r : R α} {f : α → R β} {b : β} (h : r.bind f = .ok b) : ∃ a, r = .ok a ∧ f a = .ok b := by
  cases r with
  | ok a => exact ⟨a, rfl, h⟩
  | ex c => cases h
  | no => cases h

section
variable {X : Cx}
/-! ### len, int, abs, max and min of two -/
theorem bi_len : CallR X (.builtin "len") (rBi X.K .len) := by
  rintro pins s σ H xs us Q I r ⟨Av, ts, t, hs, ok, e, q⟩
  match ts, e with
  | [.lst l], e =>
    cases e
    obtain ⟨v, rfl, hr⟩ := hs.one
    obtain ⟨a, vs, rfl, hq, rr⟩ := lst_of hr
    refine call_len_seq pins s σ H _ us Q I r ⟨a, vs, rfl, .inl (SqL.of hq), ?_⟩
    rw [rr.length]
    exact q H _ (Same.refl H) (.int _) (nofr fun _ z => nomatch z)
  | [.tup l], e =>
    cases e
    obtain ⟨v, rfl, hr⟩ := hs.one
    obtain ⟨a, vs, rfl, hq, rr⟩ := tup_of hr
    refine call_len_seq pins s σ H _ us Q I r ⟨a, vs, rfl, .inr hq, ?_⟩
    rw [rr.length]
    exact q H _ (Same.refl H) (.int _) (nofr fun _ z => nomatch z)
  | [.scr l], e =>
    cases e
    obtain ⟨v, rfl, hr⟩ := hs.one
    obtain ⟨a, rfl, hq⟩ := scr_of hr
    refine call_len_seq pins s σ H _ us Q I r ⟨a, _, rfl, .inl hq.sql, ?_⟩
    rw [List.length_map]
    exact q H _ (Same.refl H) (.int _) (nofr fun _ z => nomatch z)
  | [.str z], e =>
    obtain ⟨c, ez⟩ := rif e
    subst ez
    obtain ⟨v, rfl, hr⟩ := hs.one
    cases hr
    exact call_len_str pins s σ H _ us Q I r ⟨z, rfl, by rw [← SZ_eq]; exact c, q H _ (Same.refl H) (.int _) (nofr fun _ z => nomatch z)⟩
theorem bi_int : CallR X (.type "int") (rBi X.K .int) := by
  rintro pins s σ H xs us Q I r ⟨Av, ts, t, hs, ok, e, q⟩
  match ts, e with
  | [.int i], e =>
    cases e
    obtain ⟨v, rfl, hr⟩ := hs.one
    cases hr
    exact call_int1 pins s σ H _ us Q I r (.inl ⟨i, rfl, q H _ (Same.refl H) (.int _) (nofr fun _ z => nomatch z)⟩)
  | [.bl b], e =>
    cases e
    obtain ⟨v, rfl, hr⟩ := hs.one
    cases hr
    exact call_int1 pins s σ H _ us Q I r (.inr ⟨b, rfl, q H _ (Same.refl H) (.int _) (nofr fun _ z => nomatch z)⟩)
theorem bi_abs : CallR X (.builtin "abs") (rBi X.K .abs) := by
  rintro pins s σ H xs us Q I r ⟨Av, ts, t, hs, ok, e, q⟩
  match ts, e with
  | [.int i], e =>
    cases e
    obtain ⟨v, rfl, hr⟩ := hs.one
    cases hr
    exact call_abs pins s σ H _ us Q I r ⟨i, rfl, q H _ (Same.refl H) (.int _) (nofr fun _ z => nomatch z)⟩
theorem bi_max2 (hc : X.calm = true) : CallR X (.builtin "max") (rBi X.K .max2) := by
  rintro pins s σ H xs us Q I r ⟨Av, ts, t, hs, ok, e, q⟩
  match ts, e with
  | [.int i, .int j], e =>
    cases e
    obtain ⟨v, w, rfl, h1, h2⟩ := hs.two
    cases h1
    cases h2
    exact call_max2 hc pins s σ H _ us Q I r ⟨i, j, rfl, q H _ (Same.refl H) (.int _) (nofr fun _ z => nomatch z)⟩
theorem bi_min2 (hc : X.calm = true) : CallR X (.builtin "min") (rBi X.K .min2) := by
  rintro pins s σ H xs us Q I r ⟨Av, ts, t, hs, ok, e, q⟩
  match ts, e with
  | [.int i, .int j], e =>
    cases e
    obtain ⟨v, w, rfl, h1, h2⟩ := hs.two
    cases h1
    cases h2
    exact call_min2 hc pins s σ H _ us Q I r ⟨i, j, rfl, q H _ (Same.refl H) (.int _) (nofr fun _ z => nomatch z)⟩
theorem bi_divmod : CallR X (.builtin "divmod") (rBi X.K .divmod) := by
  rintro pins s σ H xs us Q I r ⟨Av, ts, t, hs, ok, e, q⟩
  match ts, e with
  | [.int i, .int j], e =>
    obtain ⟨c, z⟩ := rif e
    subst z
    simp only [Bool.and_eq_true, decide_eq_true_eq] at c
    obtain ⟨v, w, rfl, h1, h2⟩ := hs.two
    cases h1
    cases h2
    exact call_divmod pins s σ H _ us Q I r ⟨i, j, rfl, c, fun p hp => q _ _ (same_new hp) (.tup (.inl (.inl upd_same)) (.cons (.int _) (.cons (.int _) .nil))) (nofr fun _ z => nomatch z)⟩

theorem bi_gcd : CallR X (.builtin "math.gcd") (rBi X.K .gcd) := by
  rintro pins s σ H xs us Q I r ⟨Av, ts, t, hs, ok, e, q⟩
  match ts, e with
  | [.int i, .int j], e =>
    cases e
    obtain ⟨v, w, rfl, h1, h2⟩ := hs.two
    cases h1
    cases h2
    exact cr_gcd pins s σ H _ us Q I r ⟨i, j, rfl, q H _ (Same.refl H) (.int _) (nofr fun _ z => nomatch z)⟩
theorem bi_lcm : CallR X (.builtin "math.lcm") (rBi X.K .lcm) := by
  rintro pins s σ H xs us Q I r ⟨Av, ts, t, hs, ok, e, q⟩
  match ts, e with
  | [.int i, .int j], e =>
    obtain ⟨c, z⟩ := rif e
    subst z
    simp only [Bool.and_eq_true, decide_eq_true_eq] at c
    obtain ⟨v, w, rfl, h1, h2⟩ := hs.two
    cases h1
    cases h2
    obtain ⟨t, u, rfl⟩ := Vals.int2 r
    exact PySem.W.mc_lcm (by have : (2 : Nat) ^ 64 = 18446744073709551616 := by decide
                             omega) (by have : (2 : Nat) ^ 64 = 18446744073709551616 := by decide
                                        omega) fun _ => ⟨.int _, H, I.tok _, ⟨_, rfl⟩, q H _ (Same.refl H) (.int _) (nofr fun _ z => nomatch z)⟩

/-! ### sum, all, any -/
theorem sum_tup_raw {prog : Program} {w : World} {A : Around} {E : Value → Shared → Prop} {s : Shared} {l : Addr} {its : List Value} {ns : List Int} {Q : Value → Shared → Prop} (hh : A.handled = none) (hl : IsTup s.heap l its.toArray) (hi : IntsAre its ns)
    (h : ∀ h' tk t', (∀ b o, s.heap.get? b = some o → h'.get? b = some o) → Q (.int ns.sum t') { s with heap := h', toks := tk }) : wpAny (model prog w) A (call (.builtin "sum") [.ref l]) Q E s := by
  obtain ⟨xs, e⟩ := hi.allInts.items
  have hn : numsOf (intItems xs).toList = ns := by rw [← e]; exact hi.numsOf
  rw [nums_intItems] at hn
  rw [e] at hl
  have hlt : l < s.heap.objs.size := hl.lt
  have hl' : s.heap.IsTuple l (intItems xs) := hl
  refine call_sum_walkG (wpAny_pyIter_tuple hl' ?_)
  refine ⟨_, _, _, _, _, _, numAt xs, rfl, Walks.tuple (A := A.in1) hh _ l (Nat.ne_of_lt hlt) (intItems xs), ⟨⟨_, Heap.get?_push_size _ rfl, rfl, rfl⟩, hl'.push _⟩, fun b hb => ?_, (fun _ _ => intItems_at), fun h' tk t' hk => ?_⟩
  · show b < (s.heap.push _).objs.size
    rw [Heap.size_push]
    rcases List.mem_cons.mp hb with rfl | hb
    · exact Nat.lt_succ_self _
    · rcases List.mem_cons.mp hb with rfl | hb
      · exact Nat.lt_succ_of_lt hlt
      · cases hb
  · have := h h' tk t' fun b o eo => hk b o (fun hmem => by
      rcases List.mem_cons.mp hmem with e1 | hmem
      · exact absurd (e1 ▸ Heap.lt_size eo) (Nat.lt_irrefl _)
      · cases hmem) (Heap.get?_push_of_some _ eo)
    rw [show (intItems xs).size = xs.size by simp [intItems], preSum_eq, List.take_of_length_le (by simp), hn]
    exact this
theorem bi_sum (hc : X.calm = true) : CallR X (.builtin "sum") (rBi X.K .sum) := by
  rintro pins s σ H xs us Q I r ⟨Av, ts, t, hs, ok, e, q⟩
  match ts, e with
  | [.lst l], e =>
    obtain ⟨ns, h1, h2⟩ := bind_ok (show ((ofO (intsO l)).bind fun ns => R.ok (Tr.int ns.sum)) = .ok t from e)
    cases h2
    obtain ⟨v, rfl, hr⟩ := hs.one
    obtain ⟨a, vs, rfl, hq, rr⟩ := lst_of hr
    have ev := rr.ints (ofO_ok h1)
    subst ev
    exact cr_sum hc pins s σ H _ us Q I r ⟨a, ns, rfl, SqL.of hq, q H _ (Same.refl H) (.int _) (nofr fun _ z => nomatch z)⟩
  | [.tup l], e =>
    obtain ⟨ns, h1, h2⟩ := bind_ok (show ((ofO (intsO l)).bind fun ns => R.ok (Tr.int ns.sum)) = .ok t from e)
    cases h2
    obtain ⟨v, rfl, hr⟩ := hs.one
    obtain ⟨a, vs, rfl, hq, rr⟩ := tup_of hr
    have ev := rr.ints (ofO_ok h1)
    subst ev
    obtain ⟨its, rv, hl, _⟩ := I.tuple hq
    rw [Vals.ref1 r]
    exact sum_tup_raw (I.ok.hd hc) hl rv.ints fun h' tk t' hk => ⟨.int _, H, I.kept hk, ⟨_, rfl⟩, q H _ (Same.refl H) (.int _) (nofr fun _ z => nomatch z)⟩
theorem bi_all (hc : X.calm = true) : CallR X (.builtin "all") (rBi X.K .all) := by
  rintro pins s σ H xs us Q I r ⟨Av, ts, t, hs, ok, e, q⟩
  match ts, e with
  | [.lst l], e =>
    obtain ⟨ns, h1, h2⟩ := bind_ok (show ((ofO (blsO l)).bind fun bs => R.ok (Tr.bl (bs.all id))) = .ok t from e)
    cases h2
    obtain ⟨v, rfl, hr⟩ := hs.one
    obtain ⟨a, vs, rfl, hq, rr⟩ := lst_of hr
    have ev := rr.bls (ofO_ok h1)
    subst ev
    exact cr_all hc pins s σ H _ us Q I r ⟨a, ns, rfl, SqL.of hq, q H _ (Same.refl H) (.bl _) (nofr fun _ z => nomatch z)⟩
theorem bi_any (hc : X.calm = true) : CallR X (.builtin "any") (rBi X.K .any) := by
  rintro pins s σ H xs us Q I r ⟨Av, ts, t, hs, ok, e, q⟩
  match ts, e with
  | [.lst l], e =>
    obtain ⟨ns, h1, h2⟩ := bind_ok (show ((ofO (blsO l)).bind fun bs => R.ok (Tr.bl (bs.any id))) = .ok t from e)
    cases h2
    obtain ⟨v, rfl, hr⟩ := hs.one
    obtain ⟨a, vs, rfl, hq, rr⟩ := lst_of hr
    have ev := rr.bls (ofO_ok h1)
    subst ev
    exact cr_any hc pins s σ H _ us Q I r ⟨a, ns, rfl, SqL.of hq, q H _ (Same.refl H) (.bl _) (nofr fun _ z => nomatch z)⟩

/-! ### list, tuple -/
theorem bi_list : CallR X (.type "list") (rBi X.K .list) := by
  rintro pins s σ H xs us Q I r ⟨Av, ts, t, hs, ok, e, q⟩
  match ts, e with
  | [.lst l], e =>
    cases e
    obtain ⟨v, rfl, hr⟩ := hs.one
    obtain ⟨a, vs, rfl, hq, rr⟩ := lst_of hr
    refine call_list_of pins s σ H _ us Q I r ⟨a, vs, rfl, .inl (SqL.of hq), fun p hp => ?_⟩
    obtain ⟨h1, h2, h3⟩ := fr_new (Same.refl H) ok hp rr
    exact q _ _ h3 h1 h2
  | [.tup l], e =>
    cases e
    obtain ⟨v, rfl, hr⟩ := hs.one
    obtain ⟨a, vs, rfl, hq, rr⟩ := tup_of hr
    refine call_list_of pins s σ H _ us Q I r ⟨a, vs, rfl, .inr hq, fun p hp => ?_⟩
    obtain ⟨h1, h2, h3⟩ := fr_new (Same.refl H) ok hp rr
    exact q _ _ h3 h1 h2
theorem bi_tuple : CallR X (.type "tuple") (rBi X.K .tuple) := by
  rintro pins s σ H xs us Q I r ⟨Av, ts, t, hs, ok, e, q⟩
  match ts, e with
  | [.lst l], e =>
    cases e
    obtain ⟨v, rfl, hr⟩ := hs.one
    obtain ⟨a, vs, rfl, hq, rr⟩ := lst_of hr
    refine call_tuple_of pins s σ H _ us Q I r ⟨a, vs, rfl, .inl ⟨SqL.of hq, fun p hp => ?_⟩⟩
    exact q _ _ (same_new hp) (.tup (.inl (.inl upd_same)) (rr.mono (same_new hp))) (nofr fun _ z => nomatch z)
  | [.tup l], e =>
    cases e
    obtain ⟨v, rfl, hr⟩ := hs.one
    obtain ⟨a, vs, rfl, hq, rr⟩ := tup_of hr
    exact call_tuple_of pins s σ H _ us Q I r ⟨a, vs, rfl, .inr ⟨hq, q H _ (Same.refl H) (.tup hq rr) (nofr fun _ z => nomatch z)⟩⟩

/-! ### max, min of a list or tuple -/
theorem vals_back : ∀ {xs : List V} {us : List Value} {i : Nat} {u : Value}, Vals xs us → us[i]? = some u → ∃ x, xs[i]? = some x ∧ RelV x u
  | _, _, _, _, .nil, e => by simp at e
  | _, _, 0, _, .cons r _, e => by simp at e; subst e; exact ⟨_, rfl, r⟩
  | _, _, i + 1, u, .cons _ t, e => by
    obtain ⟨x, h1, h2⟩ := vals_back (i := i) (u := u) t (by simpa using e)
    exact ⟨x, by simpa using h1, h2⟩
mutual
theorem toPy_inj : ∀ (a b : Tr) {n m : Nat}, shB n a = true → shB m b = true → toPy a = toPy b → a = b
  | .non, b, _, m, _, hb, e => by cases b <;> first | rfl | (simp only [toPy] at e; cases e; done) | (cases m <;> cases hb)
  | .bl _, b, _, m, _, hb, e => by cases b <;> first | (simp only [toPy, PyData.bool.injEq] at e; rw [e]) | (simp only [toPy] at e; cases e; done) | (cases m <;> cases hb)
  | .int _, b, _, m, _, hb, e => by cases b <;> first | (simp only [toPy, PyData.int.injEq] at e; rw [e]) | (simp only [toPy] at e; cases e; done) | (cases m <;> cases hb)
  | .str _, b, _, m, _, hb, e => by cases b <;> first | (simp only [toPy, PyData.str.injEq] at e; rw [e]) | (simp only [toPy] at e; cases e; done) | (cases m <;> cases hb)
  | .tup ts, b, n + 1, m, ha, hb, e => by
    cases b with
    | tup us =>
      cases m with
      | zero => cases hb
      | succ m =>
        simp only [toPy, PyData.tuple.injEq] at e
        rw [toPys_inj ts us (n := n) (m := m) ha hb e]
    | scr _ => cases m <;> cases hb
    | _ => simp only [toPy] at e; cases e
  | .lst ts, b, n + 1, m, ha, hb, e => by
    cases b with
    | lst us =>
      cases m with
      | zero => cases hb
      | succ m =>
        simp only [toPy, PyData.list.injEq] at e
        rw [toPys_inj ts us (n := n) (m := m) ha hb e]
    | scr _ => cases m <;> cases hb
    | _ => simp only [toPy] at e; cases e
  | .tup ts, _, 0, _, i, _, _ => by cases i
  | .lst ts, _, 0, _, i, _, _ => by cases i
  | .scr _, _, 0, _, i, _, _ => by cases i
  | .scr _, _, _ + 1, _, i, _, _ => by cases i
theorem toPys_inj : ∀ (as bs : List Tr) {n m : Nat}, shBs n as = true → shBs m bs = true → toPys as = toPys bs → as = bs
  | [], [], _, _, _, _, _ => rfl
  | [], _ :: _, _, _, _, _, e => by simp only [toPys] at e; cases e
  | _ :: _, [], _, _, _, _, e => by simp only [toPys] at e; cases e
  | a :: as, b :: bs, n, m, ha, hb, e => by
    have ha' : (shB n a && shBs n as) = true := ha
    have hb' : (shB m b && shBs m bs) = true := hb
    rw [Bool.and_eq_true] at ha' hb'
    simp only [toPys, List.cons.injEq] at e
    rw [toPy_inj a b ha'.1 hb'.1 e.1, toPys_inj as bs ha'.2 hb'.2 e.2]
end
theorem toPys_map : ∀ ts : List Tr, toPys ts = ts.map toPy
  | [] => rfl
  | t :: ts => by rw [toPys, toPys_map ts]; rfl
theorem shBs_all {n : Nat} : ∀ {ts : List Tr}, shBs n ts = true ↔ ∀ t ∈ ts, shB n t = true
  | [] => by simp [shBs]
  | t :: ts => by
    rw [shBs, Bool.and_eq_true, shBs_all (ts := ts)]
    simp
theorem minT_mem (x : Tr) : ∀ (xs : List Tr), minT x xs = x ∨ minT x xs ∈ xs := by
  intro xs
  unfold minT
  induction xs generalizing x with
  | nil => exact .inl rfl
  | cons y ys ih =>
    rw [List.foldl_cons]
    rcases ih (if ltv y x = true then y else x) with h | h
    · rw [h]
      split
      · exact .inr List.mem_cons_self
      · exact .inl rfl
    · exact .inr (List.mem_cons_of_mem _ h)
theorem maxT_mem (x : Tr) : ∀ (xs : List Tr), maxT x xs = x ∨ maxT x xs ∈ xs := by
  intro xs
  unfold maxT
  induction xs generalizing x with
  | nil => exact .inl rfl
  | cons y ys ih =>
    rw [List.foldl_cons]
    rcases ih (if ltv x y = true then y else x) with h | h
    · rw [h]
      split
      · exact .inr List.mem_cons_self
      · exact .inl rfl
    · exact .inr (List.mem_cons_of_mem _ h)
theorem minT_py (x : Tr) : ∀ (xs : List Tr), toPy (minT x xs) = PySem.W.minD (toPy x) (toPys xs) := by
  intro xs
  unfold minT PySem.W.minD
  induction xs generalizing x with
  | nil => rfl
  | cons y ys ih =>
    rw [List.foldl_cons, toPys, List.foldl_cons, ih]
    by_cases h : ltv y x = true
    · rw [if_pos h, if_pos (show PySem.W.dataLt (toPy y) (toPy x) = true from h)]
    · rw [if_neg h, if_neg (show ¬ PySem.W.dataLt (toPy y) (toPy x) = true from h)]
theorem maxT_py (x : Tr) : ∀ (xs : List Tr), toPy (maxT x xs) = PySem.W.maxD (toPy x) (toPys xs) := by
  intro xs
  unfold maxT PySem.W.maxD
  induction xs generalizing x with
  | nil => rfl
  | cons y ys ih =>
    rw [List.foldl_cons, toPys, List.foldl_cons, ih]
    by_cases h : ltv x y = true
    · rw [if_pos h, if_pos (show PySem.W.dataLt (toPy x) (toPy y) = true from h)]
    · rw [if_neg h, if_neg (show ¬ PySem.W.dataLt (toPy x) (toPy y) = true from h)]
structure Ext (ts : List Tr) : Prop where
  alk : ∀ a ∈ ts, ∀ b ∈ ts, PySem.W.alike (toPy a) (toPy b) = true
  sh : ∀ a ∈ ts, sh a = true
theorem notNon_py {t : Tr} (h : notNon t = true) : toPy t ≠ .none := fun q => by
  cases t <;> first | (simp only [toPy] at q; cases q; done) | cases h
theorem extOk_of {ts : List Tr} (h : extOk ts = true) : Ext ts ∧ (∀ t ∈ ts, notNon t = true) ∧ ∀ t ∈ ts, notLst t = true := by
  unfold extOk at h
  simp only [Bool.and_eq_true, List.all_eq_true] at h
  exact ⟨⟨fun a ha b hb => h.1.1.1 a ha b hb, h.1.2⟩, h.1.1.2, h.2⟩
theorem srtOk_of {ts : List Tr} (h : srtOk ts = true) : Ext ts ∧ (((∀ t ∈ ts, isTup1 t = true) ∨ ∀ t ∈ ts, noTup t = true) ∨ tups0 ts = true) := by
  unfold srtOk at h
  simp only [Bool.and_eq_true, Bool.or_eq_true, List.all_eq_true] at h
  exact ⟨⟨fun a ha b hb => h.1.1 a ha b hb, h.2⟩, h.1.2⟩
theorem Ext.all {ts : List Tr} (h : Ext ts) : PySem.W.AllAlike (toPys ts) := by
  intro d hd d' hd'
  rw [toPys_map] at hd hd'
  obtain ⟨a, ha, rfl⟩ := List.mem_map.mp hd
  obtain ⟨b, hb, rfl⟩ := List.mem_map.mp hd'
  exact h.alk a ha b hb
theorem Ext.like {ts : List Tr} (h : Ext ts) (n : ∀ t ∈ ts, notNon t = true) : PySem.W.AlikeAll (toPys ts) := by
  refine ⟨h.all, fun d hd => ?_⟩
  rw [toPys_map] at hd
  obtain ⟨a, ha, rfl⟩ := List.mem_map.mp hd
  exact notNon_py (n a ha)
theorem depth_all {ts : List Tr} (h : ∀ a ∈ ts, sh a = true) : PyData.depthAll (toPys ts) ≤ 60 := (canLay_shs (n := 60) (shBs_all.mpr h)).2
/-- the greatest or least, once it is known which place it has -/
theorem ext_fin {pins : List (Addr × Obj)} {s : Shared} {σ : L2.St} {H : Hp} {Q : VK} {Av : Addr → Prop} {vs : List V} {its : List Value} {ts : List Tr} {m : Tr} (I : Inv X pins σ H s) (rv : Vals vs its) (rr : Rps X.K H Av vs ts) (x : Ext ts) (hm : m ∈ ts)
    {i : Nat} {v : Value} {h' : Heap} {tk : Nat} {bs : List Addr} (hv : its.toArray[i]? = some v) (hr : Reads h' v (toPy m) bs) (hk : ∀ b o, s.heap.get? b = some o → h'.get? b = some o) (q : ∀ w, Rp X.K H Av w m → Q w H) : EP X pins σ Q v { s with heap := h', toks := tk } := by
  have hv' : its[i]? = some v := by simpa using hv
  obtain ⟨y, hy, ry⟩ := vals_back rv hv'
  obtain ⟨t, ht, rt⟩ := rr.get' hy
  have hmem := List.mem_of_getElem? ht
  obtain ⟨as, d1⟩ := Dp.reads I _ y v (rt.dp (n := 60) (x.sh t hmem)) ry
  have d2 : Reads h' v (toPy t) as := PyProof.Rows.Reads.keeps (fun _ _ z => hk _ _ z) d1
  have e := PySem.W.alike_unique (toPy t) (toPy m) v as bs (x.alk t hmem m hm) d2 hr
  have e2 := toPy_inj t m (n := 60) (m := 60) (x.sh t hmem) (x.sh m hm) e
  subst e2
  exact ⟨y, H, I.kept hk, ry, q y rt⟩
theorem nolst {K : PySem.W.Frag} {H H' : Hp} {Av : Addr → Prop} {w : V} {t : Tr} (h : notLst t = true) : Fr K H H' Av w t := fun ts e => by
  subst e
  cases h
theorem bi_maxl (hc : X.calm = true) (hu : X.A.units + 64 < cLine) : CallR X (.builtin "max") (rBi X.K .maxl) := by
  rintro pins s σ H xs us Q I r ⟨Av, ts, t, hs, ok, e, q⟩
  match ts, e with
  | [.lst (t0 :: l)], e =>
    obtain ⟨c, z⟩ := rif e
    subst z
    obtain ⟨x, nn, nl⟩ := extOk_of c
    have hm : maxT t0 l ∈ t0 :: l := (maxT_mem t0 l).elim (fun z => by rw [z]; exact List.mem_cons_self) fun z => List.mem_cons_of_mem _ z
    obtain ⟨v, rfl, hr⟩ := hs.one
    obtain ⟨a, vs, rfl, hq, rr⟩ := lst_of hr
    obtain ⟨its, rv, hl, _⟩ := I.list (SqL.of hq)
    obtain ⟨as, dr⟩ := Dp.readsAll I _ vs its (rr.dp (n := 60) (shBs_all.mpr x.sh)) rv
    rw [Vals.ref1 r]
    refine PySem.W.max_list_data (I.ok.hd hc) hl.isList (x := toPy t0) (xs := toPys l) dr (x.like nn) (by have := depth_all x.sh; rw [toPys] at this; omega) fun i v h' tk bs hv hr' hk => ?_
    rw [← maxT_py] at hr'
    exact ext_fin I rv rr x hm hv hr' hk fun w rw' => q H w (Same.refl H) rw' (nolst (nl _ hm))
  | [.tup (t0 :: l)], e =>
    obtain ⟨c, z⟩ := rif e
    subst z
    obtain ⟨x, nn, nl⟩ := extOk_of c
    have hm : maxT t0 l ∈ t0 :: l := (maxT_mem t0 l).elim (fun z => by rw [z]; exact List.mem_cons_self) fun z => List.mem_cons_of_mem _ z
    obtain ⟨v, rfl, hr⟩ := hs.one
    obtain ⟨a, vs, rfl, hq, rr⟩ := tup_of hr
    obtain ⟨its, rv, hl, _⟩ := I.tuple hq
    obtain ⟨as, dr⟩ := Dp.readsAll I _ vs its (rr.dp (n := 60) (shBs_all.mpr x.sh)) rv
    rw [Vals.ref1 r]
    refine PySem.W.max_tuple_data (I.ok.hd hc) hl (x := toPy t0) (xs := toPys l) dr (x.like nn) (by have := depth_all x.sh; rw [toPys] at this; omega) fun i v h' tk bs hv hr' hk => ?_
    rw [← maxT_py] at hr'
    exact ext_fin I rv rr x hm hv hr' hk fun w rw' => q H w (Same.refl H) rw' (nolst (nl _ hm))
theorem bi_minl (hc : X.calm = true) (hu : X.A.units + 64 < cLine) : CallR X (.builtin "min") (rBi X.K .minl) := by
  rintro pins s σ H xs us Q I r ⟨Av, ts, t, hs, ok, e, q⟩
  match ts, e with
  | [.lst (t0 :: l)], e =>
    obtain ⟨c, z⟩ := rif e
    subst z
    obtain ⟨x, nn, nl⟩ := extOk_of c
    have hm : minT t0 l ∈ t0 :: l := (minT_mem t0 l).elim (fun z => by rw [z]; exact List.mem_cons_self) fun z => List.mem_cons_of_mem _ z
    obtain ⟨v, rfl, hr⟩ := hs.one
    obtain ⟨a, vs, rfl, hq, rr⟩ := lst_of hr
    obtain ⟨its, rv, hl, _⟩ := I.list (SqL.of hq)
    obtain ⟨as, dr⟩ := Dp.readsAll I _ vs its (rr.dp (n := 60) (shBs_all.mpr x.sh)) rv
    rw [Vals.ref1 r]
    refine PySem.W.min_list_data (I.ok.hd hc) hl.isList (x := toPy t0) (xs := toPys l) dr (x.like nn) (by have := depth_all x.sh; rw [toPys] at this; omega) fun i v h' tk bs hv hr' hk => ?_
    rw [← minT_py] at hr'
    exact ext_fin I rv rr x hm hv hr' hk fun w rw' => q H w (Same.refl H) rw' (nolst (nl _ hm))
  | [.tup (t0 :: l)], e =>
    obtain ⟨c, z⟩ := rif e
    subst z
    obtain ⟨x, nn, nl⟩ := extOk_of c
    have hm : minT t0 l ∈ t0 :: l := (minT_mem t0 l).elim (fun z => by rw [z]; exact List.mem_cons_self) fun z => List.mem_cons_of_mem _ z
    obtain ⟨v, rfl, hr⟩ := hs.one
    obtain ⟨a, vs, rfl, hq, rr⟩ := tup_of hr
    obtain ⟨its, rv, hl, _⟩ := I.tuple hq
    obtain ⟨as, dr⟩ := Dp.readsAll I _ vs its (rr.dp (n := 60) (shBs_all.mpr x.sh)) rv
    rw [Vals.ref1 r]
    refine PySem.W.min_tuple_data (I.ok.hd hc) hl (x := toPy t0) (xs := toPys l) dr (x.like nn) (by have := depth_all x.sh; rw [toPys] at this; omega) fun i v h' tk bs hv hr' hk => ?_
    rw [← minT_py] at hr'
    exact ext_fin I rv rr x hm hv hr' hk fun w rw' => q H w (Same.refl H) rw' (nolst (nl _ hm))

/-! ### repr -/
theorem rep_of {t : Tr} (h : repOk t = true) : sh t = true ∧ (toPy t).showable = true ∧ (toPy t).shown.length ≤ sizeLine := by
  unfold repOk at h
  simp only [Bool.and_eq_true, decide_eq_true_eq] at h
  exact ⟨h.1.1, h.1.2, by rw [← SZ_eq]; exact h.2⟩
theorem rep_at {pins : List (Addr × Obj)} {s : Shared} {σ : L2.St} {H : Hp} {Q : VK} {a : Addr} {Av : Addr → Prop} {t : Tr} (hg : X.A.guards = some []) (hu : X.A.units + 64 < cLine) (I : Inv X pins σ H s) (h : repOk t = true) (hr : Ri X.K H Av (.ref a) t) (q : Q (.str (toPy t).shown) H) :
    wpAny (model X.prog X.w) X.A (call (.builtin "repr") [.ref a]) (EP X pins σ Q) X.xe s := by
  obtain ⟨h1, h2, h3⟩ := rep_of h
  obtain ⟨as, d⟩ := Dp.reads I _ (.ref a) (.ref a) (hr.dp h1) rfl
  obtain ⟨h4, h5⟩ := canLay_sh (n := 60) h1
  refine repr_of_reads' d h2 (PyData.noDict_hsm (PyData.hasDict_of_canLay _ h4)) hg (by omega) (fun _ _ z => z) (fun h' u tk hk => ?_) h3
  exact ⟨.str _, H, I.kept hk, ⟨u, rfl⟩, q⟩
theorem bi_repr (hg : X.A.guards = some []) (hu : X.A.units + 64 < cLine) : CallR X (.builtin "repr") (rBi X.K .repr) := by
  rintro pins s σ H xs us Q I r ⟨Av, ts, t, hs, ok, e, q⟩
  match ts, e with
  | [.lst ts], e =>
    obtain ⟨c, z⟩ := rif e
    subst z
    obtain ⟨v, rfl, hr⟩ := hs.one
    obtain ⟨a, vs, rfl, _, _⟩ := lst_of hr
    rw [Vals.ref1 r]
    exact rep_at hg hu I c hr (q H _ (Same.refl H) (.str _) (nolst rfl))
  | [.tup ts], e =>
    obtain ⟨c, z⟩ := rif e
    subst z
    obtain ⟨v, rfl, hr⟩ := hs.one
    obtain ⟨a, vs, rfl, _, _⟩ := tup_of hr
    rw [Vals.ref1 r]
    exact rep_at hg hu I c hr (q H _ (Same.refl H) (.str _) (nolst rfl))

/-! ### sorted -/
theorem each_vals {K : PySem.W.Frag} {H : Hp} {Av : Addr → Prop} : ∀ {vs : List V} {its : List Value} {ts : List Tr}, Vals vs its → Rps K H Av vs ts → PySem.W.EachIs (fun v b => ∃ y, RelV y v ∧ Rp K H Av y b) its ts
  | _, _, _, .nil, .nil => .nil
  | _, _, _, .cons r rs, .cons q qs => .cons ⟨_, r, q⟩ (each_vals rs qs)
theorem vals_each {K : PySem.W.Frag} {H : Hp} {Av : Addr → Prop} : ∀ {its : List Value} {ts : List Tr}, PySem.W.EachIs (fun v b => ∃ y, RelV y v ∧ Rp K H Av y b) its ts → ∃ vs, Vals vs its ∧ Rps K H Av vs ts
  | _, _, .nil => ⟨[], .nil, .nil⟩
  | _, _, .cons ⟨y, r, q⟩ t => by
    obtain ⟨vs, h1, h2⟩ := vals_each t
    exact ⟨y :: vs, .cons r h1, .cons q h2⟩
theorem each_reads {pins : List (Addr × Obj)} {s : Shared} {σ : L2.St} {H : Hp} {Av : Addr → Prop} (I : Inv X pins σ H s) : ∀ {vs : List V} {its : List Value} {ts : List Tr}, (∀ t ∈ ts, sh t = true) → Vals vs its → Rps X.K H Av vs ts → PySem.W.EachIs (fun v b => ∃ as, Reads s.heap v (toPy b) as) its ts
  | _, _, _, _, .nil, .nil => .nil
  | _, _, _, h, .cons r rs, .cons q qs => .cons (Dp.reads I _ _ _ (q.dp (n := 60) (h _ List.mem_cons_self)) r) (each_reads I (fun t ht => h t (List.mem_cons_of_mem _ ht)) rs qs)
theorem bi_sorted (hu : X.A.units + 70 < cLine) : CallR X (.builtin "sorted") (rBi X.K .sorted) := by
  rintro pins s σ H xs us Q I r ⟨Av, ts, t, hs, ok, e, q⟩
  match ts, e with
  | [.lst l], e =>
    obtain ⟨c, z⟩ := rif e
    subst z
    obtain ⟨x, kind⟩ := srtOk_of c
    obtain ⟨v, rfl, hr⟩ := hs.one
    obtain ⟨a, vs, rfl, hq, rr⟩ := lst_of hr
    obtain ⟨its, rv, hl, hz⟩ := I.list (SqL.of hq)
    rw [Vals.ref1 r]
    have ha : PySem.W.AllAlike (l.map toPy) := by
      have := x.all
      rw [toPys_map] at this
      exact this
    have hdp : ∀ b ∈ l, X.A.units + 2 + (toPy b).depth < cLine := fun b hb => by
      have := (canLay_sh (n := 60) (x.sh b hb)).2
      omega
    have hz' : l.length ≤ sizeLine := by rw [← rr.length]; exact hz
    have fin : ∀ out, out.length = l.length → PySem.W.EachIs (fun v b => ∃ y, RelV y v ∧ Rp X.K H Av y b) out (l.mergeSort (PySem.W.dataLe false toPy)) → EP X pins σ Q (.ref (s.heap.objs.size + 1)) { s with heap := PyProof.Rows.sortedAll s.heap its (List.toArray out) } := fun out hlen ho => by
      obtain ⟨ws, w1, w2⟩ := vals_each ho
      obtain ⟨ep, he'⟩ := PyProof.Rows.sortedAll_at s.heap its out.toArray
      have hp : H (s.heap.objs.size + 1) = none := I.hok.fresh (Nat.le_succ _)
      obtain ⟨h1, h2, h3⟩ := fr_new (Same.refl H) ok hp w2
      exact ⟨.ref _, upd H (s.heap.objs.size + 1) (.lst ws), I.laid (t' := s.toks) (fun _ _ => PyProof.Rows.sortedAll_old) (Nat.le_succ _) ⟨by rw [w1.length, hlen, ← rr.length]; exact hz, out, ep, w1, he'⟩, rfl, q _ _ h3 h1 h2⟩
    rcases kind with kind | kind
    · have hk : PySem.W.Sortable (l.map toPy) := by
        rcases kind with k | k
        · refine .inl fun d hd => ?_
          obtain ⟨b, hb, rfl⟩ := List.mem_map.mp hd
          have := k b hb
          match b, this with
          | .tup (y :: ys), _ => exact ⟨toPy y, toPys ys, by rw [toPy, toPys]⟩
        · refine .inr fun d hd => ?_
          obtain ⟨b, hb, rfl⟩ := List.mem_map.mp hd
          have := k b hb
          cases b <;> first
            | (cases this; done)
            | (refine ⟨fun z => ?_, fun xs z => ?_⟩ <;> (simp only [toPy] at z; cases z))
      exact PySem.W.sorted_data (R := fun v b => ∃ y, RelV y v ∧ Rp X.K H Av y b) (enc := toPy) hl.isList (each_vals rv rr) (each_reads I x.sh rv rr) ha hk hz' hdp fin
    · match l, kind with
      | .tup [] :: l0, kind =>
        have k : ∀ t ∈ l0, isTup0 t = true := List.all_eq_true.mp (show (l0.all isTup0) = true from kind)
        refine sorted_tup0 (R := fun v b => ∃ y, RelV y v ∧ Rp X.K H Av y b) (enc := toPy) (ds0 := l0.map toPy) hl.isList (each_vals rv rr) (each_reads I x.sh rv rr) ha (fun d hd => ?_) (by rw [List.map_cons, toPy, toPys]) hz' hdp fin
        obtain ⟨b, hb, rfl⟩ := List.mem_map.mp hd
        rcases List.mem_cons.mp hb with rfl | hb
        · exact ⟨[], by rw [toPy, toPys]⟩
        · have := k b hb
          match b, this with
          | .tup ys, _ => exact ⟨toPys ys, by rw [toPy]⟩

/-! ### isinstance -/
def tyN : Ty → String
  | .int => "int" | .bool => "bool" | .str => "str" | .list => "list" | .tuple => "tuple"
theorem isi_ty {t : Ty} {x : Tr} {b : Bool} {v : V} {H : Hp} {Av : Addr → Prop} (e : isiT t x = some b) (h : Ri X.K H Av v x) : ∃ n, TyX X.K H v (.type n) ∧ kitB n (tyN t) = some b := by
  cases h with
  | non => exact ⟨_, .base .non, by cases t <;> (cases e; decide +kernel)⟩
  | bl _ => exact ⟨_, .base (.bl _), by cases t <;> (cases e; decide +kernel)⟩
  | int _ => exact ⟨_, .base (.int _), by cases t <;> (cases e; decide +kernel)⟩
  | str _ => exact ⟨_, .base (.str _), by cases t <;> (cases e; decide +kernel)⟩
  | tup q r =>
    refine ⟨"tuple", ?_, by cases t <;> (cases e; decide +kernel)⟩
    rcases q with (q | ⟨o, q⟩) | ⟨o, its, n, q, c, _⟩
    · exact .base (.tup q)
    · exact .fTuple q
    · exact .kTuple q c
  | lst q r => exact ⟨"list", .base (.lst q), by cases t <;> (cases e; decide +kernel)⟩
  | scr q => cases t <;> cases e

/-! ### subscripts, slices -/
theorem at_get {α β : Type} {xs : List α} {ys : List β} (hl : xs.length = ys.length) {i : Int} {b : β} (h : at' ys i = some b) : ∃ j : Nat, ys[j]? = some b ∧ ∀ a : α, xs[j]? = some a → atI xs i = some a := by
  unfold at' at h
  by_cases h0 : 0 ≤ i
  · rw [if_pos h0] at h
    refine ⟨i.toNat, h, fun a ha => ?_⟩
    have := atI_nat ha
    rw [show ((i.toNat : Nat) : Int) = i by omega] at this
    exact this
  · rw [if_neg h0] at h
    obtain ⟨c, z⟩ : -(ys.length : Int) ≤ i ∧ ys[(i + ys.length).toNat]? = some b := by
      by_cases c : -(ys.length : Int) ≤ i
      · rw [if_pos c] at h; exact ⟨c, h⟩
      · rw [if_neg c] at h; cases h
    refine ⟨_, z, fun a ha => ?_⟩
    unfold atI ixN
    rw [if_neg h0, hl, if_pos c]
    exact ha
/-- by an item -/
def rIxs (K : PySem.W.Frag) : R2 := fun x y H Q => ∃ Av a b t, Ri K H Av x a ∧ Ri K H Av y b ∧ idxT a b = .ok t ∧ ∀ w, Rp K H Av w t → Q w H
theorem idx_ok : IxR X (rIxs X.K) := by
  intro ve se pins s σ H x y v u Q I rx ry h hsub
  obtain ⟨Av, a, b, t, ha, hb, e, q⟩ := h
  match a, b, e with
  | .tup ts, .int i, e =>
    obtain ⟨p, vs, rfl, hq, rr⟩ := tup_of ha
    cases hb
    obtain ⟨j, h1, h2⟩ := at_get rr.length (ofO_ok (show ofO (at' ts i) = .ok t from e))
    obtain ⟨w, h3, h4⟩ := rr.get h1
    exact ix_tup ve se pins s σ H _ _ v u Q I rx ry ⟨p, vs, _, w, rfl, rfl, hq, h2 w h3, q w h4⟩ hsub
  | .lst ts, .int i, e =>
    obtain ⟨p, vs, rfl, hq, rr⟩ := lst_of ha
    cases hb
    obtain ⟨j, h1, h2⟩ := at_get rr.length (ofO_ok (show ofO (at' ts i) = .ok t from e))
    obtain ⟨w, h3, h4⟩ := rr.get h1
    exact ix_list ve se pins s σ H _ _ v u Q I rx ry ⟨p, vs, _, w, rfl, rfl, SqL.of hq, h2 w h3, q w h4⟩ hsub
  | .scr ns, .int i, e =>
    obtain ⟨p, rfl, hq⟩ := scr_of ha
    cases hb
    have e1 := ofO_ok (show ofO ((at' ns i).map Tr.int) = .ok t from e)
    cases hz : at' ns i with
    | none => rw [hz] at e1; cases e1
    | some n =>
      rw [hz] at e1
      cases e1
      obtain ⟨j, h1, h2⟩ := at_get (xs := ns.map V.int) (by rw [List.length_map]) hz
      exact ix_list ve se pins s σ H _ _ v u Q I rx ry ⟨p, _, _, .int n, rfl, rfl, hq.sql, h2 _ (by rw [List.getElem?_map, h1]; rfl), q _ (.int n)⟩ hsub
theorem sIx_eq (n d : Nat) (o : Option Int) : HT.sIx n d o = sIx n d o := by
  cases o with
  | none => rfl
  | some v =>
    unfold HT.sIx sIx
    first
      | rfl
      | (by_cases h : v < 0 <;> simp only [h, if_true, if_false] <;> omega)
theorem cut_eq (xs : List V) (lo hi : Option Int) : cutV xs lo hi = cut xs lo hi := by
  unfold cutV cut
  rw [sIx_eq, sIx_eq]
theorem Rps.cut {K : PySem.W.Frag} {H : Hp} {Av : Addr → Prop} {vs : List V} {ts : List Tr} (h : Rps K H Av vs ts) (lo hi : Option Int) : Rps K H Av (Jr.cut vs lo hi) (Jr.cut ts lo hi) := by
  unfold Jr.cut
  rw [h.length]
  exact (h.drop _).take _
def rSlc (K : PySem.W.Frag) : V → Option Int → Option Int → Hp → VK → Prop := fun x lo hi H Q => ∃ Av a t, Ri K H Av x a ∧ (∀ a, Av a → H a ≠ none) ∧ slcT a lo hi = .ok t ∧ ∀ H' w, Same H H' → Rp K H' Av w t → Fr K H H' Av w t → Q w H'
theorem cut_whole {α : Type} {xs : List α} {lo hi : Option Int} (h : sIx xs.length 0 lo = 0 ∧ sIx xs.length xs.length hi = xs.length) : cut xs lo hi = xs := by
  unfold cut
  rw [h.1, h.2]
  simp
theorem slc_ok : SlR X (rSlc X.K) := by
  intro pins s σ H x v vl vu lo hi sl Q I rx hs pl pu h
  obtain ⟨Av, a, t, ha, ok, e, q⟩ := h
  match a, e with
  | .tup ts, e =>
    obtain ⟨p, vs, rfl, hq, rr⟩ := tup_of ha
    cases e
    refine sl_tupA pins s σ H _ v vl vu lo hi sl Q I rx hs pl pu ⟨p, vs, rfl, hq, fun hw => ?_, fun _ l hl => ?_⟩
    · rw [sIx_eq, sIx_eq, rr.length] at hw
      rw [cut_whole hw] at q
      exact q H _ (Same.refl H) (.tup hq rr) (nofr fun _ z => nomatch z)
    · rw [cut_eq]
      exact q _ _ (same_new hl) (.tup (.inl (.inl upd_same)) ((rr.cut lo hi).mono (same_new hl))) (nofr fun _ z => nomatch z)
  | .lst ts, e =>
    obtain ⟨p, vs, rfl, hq, rr⟩ := lst_of ha
    cases e
    refine sl_list pins s σ H _ v vl vu lo hi sl Q I rx hs pl pu ⟨p, vs, rfl, SqL.of hq, fun l hl => ?_⟩
    rw [cut_eq]
    obtain ⟨h1, h2, h3⟩ := fr_new (Same.refl H) ok hl (rr.cut lo hi)
    exact q _ _ h3 h1 h2

/-! ### truth -/
theorem emp_eq {K : PySem.W.Frag} {H : Hp} {Av : Addr → Prop} {vs : List V} {ts : List Tr} (h : Rps K H Av vs ts) : (!vs.isEmpty) = !ts.isEmpty := by
  cases h <;> rfl
theorem tru_of {x : V} {t : Tr} {k : Bool} {H : Hp} {Av : Addr → Prop} (e : tru t = .ok k) (h : Ri X.K H Av x t) : TruV X.K x H k := by
  cases h with
  | non => cases e; rfl
  | bl _ => cases e; rfl
  | int _ => cases e; rfl
  | str y =>
    obtain ⟨c, z⟩ := rif e
    subst z
    exact ⟨by rw [← SZ_eq]; exact c, rfl⟩
  | tup q r => cases e; exact .inr (.inl ⟨_, q, (emp_eq r).symm⟩)
  | lst q r => cases e; exact .inl ⟨_, SqL.of q, (emp_eq r).symm⟩
  | scr q =>
    cases e
    refine .inl ⟨_, q.sql, ?_⟩
    rename_i ns
    cases ns <;> rfl
end
end Jr

/-! The syntax that is an evaluator's term; which regions a value may lie in; the state's relation. -/
namespace Jr
open PySem PySem.Spec PyProof.Rows L2

structure Tb where
  fns : List Fn
  gls : List Str
  bs : List Str
  /-- classes of exceptions; which of them is caught by which; isinstance of one of them by a class's name -/
  exs : List Str := []
  exm : List ((Str × Str) × Bool) := []
  kit : List ((Str × Str) × Bool) := []
  /-- tuples of whole numbers under a module's names -/
  gts : List (Str × List Int) := []

def glB (sc : Scope) (x : Str) : Bool := decide (sc.names.lookup x = some .globalImplicit) && !(x == ("__debug__" : Str))
def visB (sc : Scope) (x : Str) : Bool := match sc.names.lookup x with
  | some .local => true
  | some .cell => true
  | some .free => true
  | _ => false
def locB (sc : Scope) (x : Str) : Bool := match sc.names.lookup x with
  | some .local => true
  | some .cell => true
  | _ => false
def varB (N : List Str) (sc : Scope) (i : Nat) (x : Str) : Bool := decide (N[i]? = some x) && visB sc x && !(x == ("__debug__" : Str)) && !(x == ("__classdict__" : Str))
def biN : Bi → Str
  | .len => "len" | .int => "int" | .abs => "abs" | .max2 => "max" | .min2 => "min" | .maxl => "max" | .minl => "min" | .sum => "sum" | .all => "all" | .any => "any"
  | .list => "list" | .tuple => "tuple" | .sorted => "sorted" | .isi _ => "isinstance" | .divmod => "divmod" | .repr => "repr" | .gcd => "gcd" | .lcm => "lcm"
/-- the names of a module's functions -/
def mgB (x : Str) : Option Value := if x = "gcd" then some (.builtin "math.gcd") else if x = "lcm" then some (.builtin "math.lcm") else none
def biB (tb : Tb) (sc : Scope) (n x : Str) : Bool := decide (x = n) && glB sc x && decide (x ∈ tb.bs)

def notIsi : Bi → Bool
  | .isi _ => false
  | _ => true
def notStar : Expr → Bool
  | .Starred _ _ => false
  | _ => true
def notSlice : Expr → Bool
  | .Slice _ _ _ _ => false
  | _ => true
def notSet : Expr → Bool
  | .Set _ _ _ => false
  | _ => true
/-- its truth is asked of its value -/
def plainT : Expr → Bool
  | .BoolOp _ _ _ | .UnaryOp .Not _ _ | .Compare _ _ _ _ | .IfExp _ _ _ _ => false
  | _ => true
def isNil : Ex → Bool
  | .nil => true
  | _ => false
def isTupE : Expr → Bool
  | .Tuple _ _ _ => true
  | _ => false
/-- enumerate and zip want a tuple as the target -/
def tgOk : It → Expr → Bool
  | .enum _, e => isTupE e
  | .zip _ _, e => isTupE e
  | _, _ => true
def ownOf (N : List Str) (l : List Nat) : List (Str × Nat) := l.map fun i => (N.getD i Str.empty, i)
theorem ownOf_snd (N : List Str) (l : List Nat) : (ownOf N l).map (·.2) = l := by
  unfold ownOf
  rw [List.map_map]
  exact List.map_id l

mutual
def mP (N : List Str) (sc : Scope) : Pat → Expr → Bool
  | .var i, e => match e with
    | .Name x _ => decide (N[i]? = some x) && locB sc x
    | _ => false
  | .tup ps, e => match e with
    | .Tuple es _ _ => mPs N sc ps es
    | _ => false
def mPs (N : List Str) (sc : Scope) : List Pat → List Expr → Bool
  | [], es => es.isEmpty
  | p :: ps, es => match es with
    | e :: es => notStar e && mP N sc p e && mPs N sc ps es
    | [] => false
end

/-- if it is a list, it is a new one -/
def fresh (tb : Tb) : Ex → Bool
  | .var _ | .gl _ | .idx _ _ | .nil => false
  | .ite _ a b => fresh tb a && fresh tb b
  | .and a b => fresh tb a && fresh tb b
  | .or a b => fresh tb a && fresh tb b
  | .ims a => fresh tb a
  | .call f _ => (tb.fns[f]?.map (·.fr)).getD false
  | .cald f _ => (tb.fns[f]?.map (·.fr)).getD false
  | _ => true
mutual
/-- the expression is written by this term -/
def mE (tb : Tb) (N : List Str) : Scope → Ex → Expr → Bool
  | _, .int i, e => match e with
    | .Constant (.int j) _ _ => decide (i = j)
    | _ => false
  | _, .bl b, e => match e with
    | .Constant (.bool c) _ _ => b == c
    | _ => false
  | _, .non, e => match e with
    | .Constant .none _ _ => true
    | _ => false
  | _, .str s, e => match e with
    | .Constant (.str z) _ _ => decide (s = z)
    | _ => false
  | sc, .var i, e => match e with
    | .Name x _ => varB N sc i x
    | _ => false
  | sc, .gl i, e => match e with
    | .Name x _ => decide (tb.gls[i]? = some x) && glB sc x
    | _ => false
  | sc, .im a, e => mE tb N sc a e
  | sc, .ims a, e => fresh tb a && mE tb N sc a e
  | sc, .bin o a b, e => match e with
    | .BinOp x op y _ => decide (op = boO o) && mE tb N sc a x && mE tb N sc b y
    | _ => false
  | sc, .neg a, e => match e with
    | .UnaryOp .USub x _ => mE tb N sc a x
    | _ => false
  | sc, .not a, e => match e with
    | .UnaryOp .Not x _ => mE tb N sc a x
    | _ => false
  | sc, .cmp o a b, e => match e with
    | .Compare x [op] [y] _ => decide (op = coO o) && notSet y && mE tb N sc a x && mE tb N sc b y
    | _ => false
  | sc, .chain o o' a b c, e => match e with
    | .Compare x [op, op'] [y, z] _ => decide (op = coO o) && decide (op' = coO o') && notSet z && mE tb N sc a x && mE tb N sc b y && mE tb N sc c z
    | _ => false
  | sc, .and a b, e => match e with
    | .BoolOp .And (x :: y :: r) pos => mE tb N sc a x && (match r with
      | [] => mE tb N sc b y
      | _ => mE tb N sc b (.BoolOp .And (y :: r) pos))
    | _ => false
  | sc, .or a b, e => match e with
    | .BoolOp .Or (x :: y :: r) pos => mE tb N sc a x && (match r with
      | [] => mE tb N sc b y
      | _ => mE tb N sc b (.BoolOp .Or (y :: r) pos))
    | _ => false
  | sc, .ite c a b, e => match e with
    | .IfExp z x y _ => mC tb N sc c z && mE tb N sc a x && mE tb N sc b y
    | _ => false
  | sc, .tup es, e => match e with
    | .Tuple xs _ _ => mEs tb N sc es xs
    | _ => false
  | sc, .lst es, e => match e with
    | .List xs _ => mEs tb N sc es xs
    | _ => false
  | sc, .idx a i, e => match e with
    | .Subscript x y _ => notSlice y && mE tb N sc a x && mE tb N sc i y
    | _ => false
  | sc, .slc a lo hi, e => match e with
    | .Subscript x (.Slice l h none _) _ => mE tb N sc a x && (match l with
      | none => isNil lo
      | some l => mE tb N sc lo l) && (match h with
      | none => isNil hi
      | some h => mE tb N sc hi h)
    | _ => false
  | sc, .slk k a lo hi, e => match e with
    | .Subscript x (.Slice l h (some (.Constant (.int j) _ _)) _) _ => decide (j = (k : Int)) && decide (1 ≤ k) && mE tb N sc a x && (match l with
      | none => isNil lo
      | some l => mE tb N sc lo l) && (match h with
      | none => isNil hi
      | some h => mE tb N sc hi h)
    | _ => false
  | sc, .rev a, e => match e with
    | .Subscript x (.Slice none none (some (.UnaryOp .USub (.Constant (.int i) _ _) _)) _) _ => decide (i = 1) && mE tb N sc a x
    | _ => false
  | sc, .call f es, e => match e with
    | .Call (.Name x _) (y :: ys) [] _ => decide ((tb.fns[f]?.map (·.name)) = some x) && glB sc x && mEs tb N sc es (y :: ys)
    | _ => false
  | sc, .cald f es, e => match e with
    | .Call (.Name x _) (y :: ys) [] _ => decide ((tb.fns[f]?.map (·.name)) = some x) && glB sc x && ((tb.fns[f]?.map (·.dfr)).getD false) && mEs tb N sc es (y :: ys)
    | _ => false
  | sc, .bi b es, e => match e with
    | .Call (.Name x _) (y :: ys) [] _ => biB tb sc (biN b) x && notIsi b && mEs tb N sc es (y :: ys)
    | _ => false
  | sc, .isi t a, e => match e with
    | .Call (.Name x _) [y, .Name z _] [] _ => biB tb sc (biN (.isi t)) x && notStar y && mE tb N sc a y && biB tb sc (Str.ofString (tyN t)) z
    | _ => false
  | sc, .lrg1 a, e => match e with
    | .Call (.Name x _) [.Call (.Name y _) [z] [] _] [] _ => biB tb sc "list" x && biB tb sc "range" y && notStar z && mE tb N sc a z
    | _ => false
  | sc, .lrg2 a b, e => match e with
    | .Call (.Name x _) [.Call (.Name y _) [z, w] [] _] [] _ => biB tb sc "list" x && biB tb sc "range" y && notStar z && notStar w && mE tb N sc a z && mE tb N sc b w
    | _ => false
  | sc, .ind i b, e => match e with
    | .Call (.Attribute (.Name x _) nm apos) [v] [] cpos => decide (nm = ("index" : Str)) && varB N sc i x && notStar v && mE tb N sc b v && (apos.endLine == cpos.line)
    | _ => false
  | sc, .comp p it c a, e => match e with
    | .ListComp elt [⟨tg, iter, ifs, k⟩] scope _ => decide (k = 0) && mI tb N sc it iter && tgOk it tg && notSet iter && blkC N sc scope (ownOf N p.slots) && mP N scope p tg && (match ifs with
      | [] => isNil c
      | [d] => mC tb N (relS scope sc) c d
      | _ => false) && mE tb N (relS scope sc) a elt
    | _ => false
  | sc, .comp2 p it q it2 c a, e => match e with
    | .ListComp elt [⟨tg, iter, ifs, k⟩, ⟨tg2, iter2, ifs2, k2⟩] scope _ => decide (k = 0) && decide (k2 = 0) && ifs.isEmpty && mI tb N sc it iter && tgOk it tg && notSet iter && blkC N sc scope (ownOf N (p.slots ++ q.slots)) && mP N scope p tg &&
      mI tb N (relS scope sc) it2 iter2 && tgOk it2 tg2 && notSet iter2 && mP N scope q tg2 && (match ifs2 with
      | [] => isNil c
      | [d] => mC tb N (relS scope sc) c d
      | _ => false) && mE tb N (relS scope sc) a elt
    | _ => false
  | _, .nil, _ => false
/-- as a test -/
def mC (tb : Tb) (N : List Str) : Scope → Ex → Expr → Bool
  | sc, .not a, e => match e with
    | .UnaryOp .Not x _ => mC tb N sc a x
    | _ => false
  | sc, .and a b, e => match e with
    | .BoolOp .And (x :: y :: r) pos => mC tb N sc a x && (match r with
      | [] => mC tb N sc b y
      | _ => mC tb N sc b (.BoolOp .And (y :: r) pos))
    | _ => false
  | sc, .or a b, e => match e with
    | .BoolOp .Or (x :: y :: r) pos => mC tb N sc a x && (match r with
      | [] => mC tb N sc b y
      | _ => mC tb N sc b (.BoolOp .Or (y :: r) pos))
    | _ => false
  | sc, .cmp o a b, e => match e with
    | .Compare x [op] [y] _ => decide (op = coO o) && notSet y && mE tb N sc a x && mE tb N sc b y
    | _ => false
  | sc, .chain o o' a b c, e => match e with
    | .Compare x [op, op'] [y, z] _ => decide (op = coO o) && decide (op' = coO o') && notSet z && mE tb N sc a x && mE tb N sc b y && mE tb N sc c z
    | _ => false
  | _, .ite _ _ _, _ => false
  | _, .nil, _ => false
  | sc, .bi b es, e => match e with
    | .Call (.Name x _) (y :: ys) [] _ => biB tb sc (biN b) x && notIsi b && mEs tb N sc es (y :: ys)
    | _ => false
  | sc, .isi t a, e => match e with
    | .Call (.Name x _) [y, .Name z _] [] _ => biB tb sc (biN (.isi t)) x && notStar y && mE tb N sc a y && biB tb sc (Str.ofString (tyN t)) z
    | _ => false
  | sc, .call f es, e => match e with
    | .Call (.Name x _) (y :: ys) [] _ => decide ((tb.fns[f]?.map (·.name)) = some x) && glB sc x && mEs tb N sc es (y :: ys)
    | _ => false
  | sc, .var i, e => match e with
    | .Name x _ => varB N sc i x
    | _ => false
  | sc, .idx a i, e => match e with
    | .Subscript x y _ => notSlice y && mE tb N sc a x && mE tb N sc i y
    | _ => false
  | sc, .bin o a b, e => match e with
    | .BinOp x op y _ => decide (op = boO o) && mE tb N sc a x && mE tb N sc b y
    | _ => false
  | _, _, _ => false
def mEs (tb : Tb) (N : List Str) : Scope → Exs → List Expr → Bool
  | _, .nil, xs => xs.isEmpty
  | sc, .cons e es, xs => match xs with
    | x :: xs => notStar x && mE tb N sc e x && mEs tb N sc es xs
    | [] => false
def mI (tb : Tb) (N : List Str) : Scope → It → Expr → Bool
  | sc, .of a, e => mE tb N sc a e
  | sc, .rng1 a, e => match e with
    | .Call (.Name x _) [y] [] _ => biB tb sc "range" x && notStar y && mE tb N sc a y
    | _ => false
  | sc, .rng2 a b, e => match e with
    | .Call (.Name x _) [y, z] [] _ => biB tb sc "range" x && notStar y && notStar z && mE tb N sc a y && mE tb N sc b z
    | _ => false
  | sc, .enum a, e => match e with
    | .Call (.Name x _) [y] [] _ => biB tb sc "enumerate" x && notStar y && mE tb N sc a y
    | _ => false
  | sc, .zip a b, e => match e with
    | .Call (.Name x _) [y, z] [] _ => biB tb sc "zip" x && notStar y && notStar z && mE tb N sc a y && mE tb N sc b z
    | _ => false
end

/-! ### which slots' own lists a value may lie in; i + 1000: the items of the slot i -/
/-- it may give a list -/
def listy : BinO → Bool
  | .add | .mul => true
  | _ => false
def noVar : Ex → List Nat → List Nat
  | .var i, _ => [i + 1000]
  | _, l => l
mutual
def esc : Ex → List Nat
  | .var i => [i]
  | .im _ => []
  | .ims _ => []
  | .bin o a b => if listy o then noVar a (esc a) ++ noVar b (esc b) else []
  | .and a b => esc a ++ esc b
  | .or a b => esc a ++ esc b
  | .ite _ a b => esc a ++ esc b
  | .tup es => escs es
  | .lst es => escs es
  | .idx a _ => noVar a (esc a)
  | .slc a _ _ => noVar a (esc a)
  | .slk _ a _ _ => noVar a (esc a)
  | .rev a => noVar a (esc a)
  | .call _ es => escs es
  | .cald _ _ => []
  | .bi _ es => escIs es
  | .comp p it _ a => esc a ++ escT it ++ p.slots
  | .comp2 p it q it2 _ a => esc a ++ escT it ++ escT it2 ++ (p.slots ++ q.slots)
  | .int _ | .bl _ | .non | .str _ | .gl _ | .neg _ | .not _ | .cmp _ _ _ | .chain _ _ _ _ _ | .isi _ _ | .lrg1 _ | .lrg2 _ _ | .ind _ _ | .nil => []
def escs : Exs → List Nat
  | .nil => []
  | .cons e es => esc e ++ escs es
def escIs : Exs → List Nat
  | .nil => []
  | .cons e es => noVar e (esc e) ++ escIs es
/-- the items of what is walked -/
def escT : It → List Nat
  | .of e => noVar e (esc e)
  | .rng1 _ => []
  | .rng2 _ _ => []
  | .enum e => noVar e (esc e)
  | .zip a b => noVar a (esc a) ++ noVar b (esc b)
end
abbrev escI (e : Ex) : List Nat := noVar e (esc e)
/-- what is walked itself -/
def escL : It → List Nat
  | .of e => esc e
  | .rng1 _ => []
  | .rng2 _ _ => []
  | .enum e => esc e
  | .zip a b => esc a ++ esc b

/-! ### the state -/
/-- the flag that says: no old list lies in the slot of this code -/
def cc (j : Nat) : Nat := 2000 + j % 1000
/-- O: what nothing that is read lies in; Old: what stood before the def's call; A: the list that a slot owns; H0: what stays; F: the slots that own their list if they hold one, and the flags of those in which no old list lies -/
structure Gh where
  O : Addr → Prop
  Old : Addr → Prop
  A : Nat → Option Addr
  H0 : Hp
  F : List Nat
/-- no old list lies in these -/
def Gh.cl (g : Gh) (l : List Nat) : Prop := ∀ j ∈ l, cc j ∈ g.F
/-- what to avoid, but for the own lists of the slots l -/
def Gh.Av (g : Gh) (l : List Nat) : Addr → Prop := fun a => g.O a ∨ (∃ k, g.A k = some a ∧ k ∉ l) ∨ (g.Old a ∧ g.cl l)
theorem Gh.av_less {g : Gh} {l l' : List Nat} (h : ∀ k ∈ l, k ∈ l') : ∀ a, g.Av l' a → g.Av l a
  | _, .inl z => .inl z
  | _, .inr (.inl ⟨k, e, n⟩) => .inr (.inl ⟨k, e, fun z => n (h k z)⟩)
  | _, .inr (.inr ⟨o, q⟩) => .inr (.inr ⟨o, fun j hj => q j (h j hj)⟩)
structure Rel (K : PySem.W.Frag) (g : Gh) (σ : L2.St) (ρ : Env) (H : Hp) : Prop where
  same : Same g.H0 H
  oh : ∀ a, g.O a → H a ≠ none
  old : ∀ a, g.Old a → H a ≠ none
  len : ρ.length = σ.length
  len2 : ρ.length ≤ 1000
  own : ∀ i a, g.A i = some a → i ∈ g.F ∧ g.H0 a = none ∧ (∃ vs, H a = some (.lst vs)) ∧ ¬ g.O a
  own2 : ∀ i a, g.A i = some a → ¬ g.Old a ∧ i < 1000
  inj : ∀ i j a, g.A i = some a → g.A j = some a → i = j
  val : ∀ i t, ρ[i]? = some (some t) → ∃ v, σ[i]? = some (some v) ∧ Ri K H (g.Av [i + 1000]) v t ∧ ((∃ a ts, g.A i = some a ∧ v = .ref a ∧ t = .lst ts) ∨ (Rp K H (g.Av [i + 1000]) v t ∧ (i ∈ g.F → notLst t = true)))
section
variable {K : PySem.W.Frag} {g : Gh} {σ : L2.St} {ρ : Env} {H H' : Hp}
theorem cc_item (i : Nat) : cc (i + 1000) = cc i := by
  unfold cc
  rw [Nat.add_mod_right]
theorem Rel.mono (r : Rel K g σ ρ H) (s : Same H H') : Rel K g σ ρ H' where
  same := r.same.trans s
  oh := fun a z => by
    cases q : H a with
    | none => exact absurd q (r.oh a z)
    | some o => rw [s a o q]; simp
  old := fun a z => by
    cases q : H a with
    | none => exact absurd q (r.old a z)
    | some o => rw [s a o q]; simp
  len := r.len
  len2 := r.len2
  own := fun i a e => by
    obtain ⟨h1, h2, ⟨vs, h3⟩, h4⟩ := r.own i a e
    exact ⟨h1, h2, ⟨vs, s _ _ h3⟩, h4⟩
  own2 := r.own2
  inj := r.inj
  val := fun i t e => by
    obtain ⟨v, h1, h2, h3⟩ := r.val i t e
    exact ⟨v, h1, h2.mono s, h3.imp id fun z => ⟨z.1.mono s, z.2⟩⟩
theorem Rel.av (r : Rel K g σ ρ H) (l : List Nat) : ∀ a, g.Av l a → H a ≠ none
  | a, .inl z => r.oh a z
  | a, .inr (.inl ⟨k, e, _⟩) => by
    obtain ⟨_, _, ⟨vs, h3⟩, _⟩ := r.own k a e
    rw [h3]
    simp
  | a, .inr (.inr ⟨z, _⟩) => r.old a z
/-- the slot itself, its items -/
theorem Rel.av_item (r : Rel K g σ ρ H) {i : Nat} : ∀ a, g.Av [i] a → g.Av [i + 1000] a
  | _, .inl z => .inl z
  | _, .inr (.inl ⟨k, e, _⟩) => .inr (.inl ⟨k, e, fun z => by
    have := (r.own2 k _ e).2
    rw [List.mem_singleton.mp z] at this
    omega⟩)
  | _, .inr (.inr ⟨o, q⟩) => .inr (.inr ⟨o, fun j hj => by
    rw [List.mem_singleton.mp hj, cc_item]
    exact q i List.mem_cons_self⟩)
end

/-- what an expression's value is: off the regions it may lie in; its items; a new list -/
structure Rz (K : PySem.W.Frag) (tb : Tb) (g : Gh) (e : Ex) (H H' : Hp) (w : V) (t : Tr) : Prop where
  rp : Rp K H' (g.Av (esc e)) w t
  ri : Ri K H' (g.Av (escI e)) w t
  fr : fresh tb e = true → Fr K H H' (g.Av (esc e)) w t
theorem Rz.of {K : PySem.W.Frag} {tb : Tb} {g : Gh} {e : Ex} {H H' : Hp} {w : V} {t : Tr} (hv : noVar e (esc e) = esc e) (rp : Rp K H' (g.Av (esc e)) w t) (fr : fresh tb e = true → Fr K H H' (g.Av (esc e)) w t) : Rz K tb g e H H' w t :=
  ⟨rp, by unfold escI; rw [hv]; exact rp.ri, fr⟩
theorem Fr.before {K : PySem.W.Frag} {H0 H H' : Hp} {Av : Addr → Prop} {w : V} {t : Tr} (s : Same H0 H) (h : Fr K H H' Av w t) : Fr K H0 H' Av w t := fun ts e => by
  obtain ⟨p, vs, h1, h2, h3, h4⟩ := h ts e
  exact ⟨p, vs, h1, s.free h2, h3, h4⟩
theorem Fr.less {K : PySem.W.Frag} {H H' : Hp} {Av Av' : Addr → Prop} {w : V} {t : Tr} (k : ∀ a, Av' a → Av a) (h : Fr K H H' Av w t) : Fr K H H' Av' w t := fun ts e => by
  obtain ⟨p, vs, h1, h2, h3, h4⟩ := h ts e
  exact ⟨p, vs, h1, h2, h3, h4.less fun a z => z.imp (k a) id⟩

/-- the end of a reckoning: what is wanted of a value, of an exception -/
def Go {α : Type} (mg : Str → Option Value) (W : WX) (σ : L2.St) (H : Hp) (r : R α) (k : α → Prop) : Prop := match r with
  | .ok a => k a
  | .ex x => ∀ C, mg x = some (.ref C) → ∀ H', Same H H' → W (.ref C) none σ H'
  | .no => False
theorem Go.bind {α β : Type} {mg : Str → Option Value} {W : WX} {σ : L2.St} {H : Hp} {r : R α} {f : α → R β} {k : β → Prop} (h : Go mg W σ H (r.bind f) k) : Go mg W σ H r fun a => Go mg W σ H (f a) k := by
  cases r with
  | ok a => exact h
  | ex c => exact h
  | no => exact h
theorem Go.imp {α : Type} {mg : Str → Option Value} {W : WX} {σ : L2.St} {H : Hp} {r : R α} {k k' : α → Prop} (h : Go mg W σ H r k) (i : ∀ a, r = .ok a → k a → k' a) : Go mg W σ H r k' := by
  cases r with
  | ok a => exact i a rfl h
  | ex c => exact h
  | no => exact h
theorem Go.mono {α : Type} {mg : Str → Option Value} {W : WX} {σ : L2.St} {H H' : Hp} {r : R α} {k : α → Prop} (h : Go mg W σ H r k) (s : Same H H') : Go mg W σ H' r k := by
  cases r with
  | ok a => exact h
  | ex c => exact fun C e H2 s2 => h C e H2 (s.trans s2)
  | no => exact h

section
variable (mg : Str → Option Value) (K : PySem.W.Frag) (tb : Tb) (c : Ctx) (W : WX)
def rdE (e : Ex) : TE := fun σ H Q => ∃ g ρ, Rel K g σ ρ H ∧ Go mg W σ H (evE c e ρ) fun t => ∀ H' w, Same H H' → Rz K tb g e H H' w t → Q w H'
def rdC (e : Ex) : TT := fun σ H Q => ∃ g ρ, Rel K g σ ρ H ∧ Go mg W σ H (evC c e ρ) fun t => ∀ H', Same H H' → Q t H'
def rdA (es : Exs) : TA := fun σ H Q => ∃ g ρ, Rel K g σ ρ H ∧ Go mg W σ H (evEs c es ρ) fun ts => ∀ H' vs, Same H H' → Rps K H' (g.Av (escs es)) vs ts → Ris K H' (g.Av (escIs es)) vs ts → Q vs H'
def rdO (e : Ex) : TO := fun σ H Q => ∃ g ρ, Rel K g σ ρ H ∧ Go mg W σ H (evO c e ρ) fun o => ∀ H', Same H H' → Q o H'
end

/-- the promise of a def by its reckoning -/
def spF (K : PySem.W.Frag) (mg : Str → Option Value) (np : Nat) (fr dfr : Bool) (f : List Tr → R Tr) : Sp := fun vs H Q E => vs.length = np ∧ ∃ (O : Addr → Prop) (ts : List Tr), (∀ a, O a → H a ≠ none) ∧ Rps K H O vs ts ∧
  Go mg (fun cls d _ H' => E cls d H') [] H (f ts) fun t => ∀ H' w, Same H H' → Rp K H' O w t → (fr = true → Fr K H H' O w t) → (dfr = true → Rp K H' (fun a => H a ≠ none) w t ∧ (fr = true → Fr K H H' (fun a => H a ≠ none) w t)) → Q w H'

/-- a class of exceptions of one's own -/
structure ExF (K : PySem.W.Frag) (mg : Str → Option Value) (x : Str) (C : Addr) : Prop where
  g : mg x = some (.ref C)
  q : PySem.W.excIn K C He.veBase "ValueError.__new__" = true
  k : PySem.W.keepIn K (.ref C) = true
  b : PySem.W.subIn K (.ref C) (.type "BaseException") = some true
  t : PySem.W.typeIn K (.ref C) = some (.type "type")
  e : ExcC K C
def ExmF (K : PySem.W.Frag) (mg : Str → Option Value) (x y : Str) (b : Bool) : Prop := ∃ D, mg y = some (.ref D) ∧ ∀ C, mg x = some (.ref C) → PySem.W.exmOne K (.ref C) (.ref D) = some b
def KitF (K : PySem.W.Frag) (mg : Str → Option Value) (x y : Str) (b : Bool) : Prop :=
  ∃ (v : V) (u : Value), (mg y = some u ∨ (mg y = none ∧ bootBuiltins y = some u ∧ y ≠ "__name__")) ∧ RelV v u ∧ (∀ u', RelV v u' → u' = u) ∧ ∀ C, mg x = some (.ref C) → PySem.W.kitOne K (.ref C) u = some b
structure XOk (tb : Tb) (c : Ctx) (k : Nat) (N : List Str) (W : WX) (X : Cx) (sc osc : Scope) : Prop where
  hN : X.N = N
  sz : N.length ≤ 1000
  nd : N.Nodup
  hsc : X.env.scope = sc
  calm : X.calm = true
  tk : Takes X W
  room : Room k X.A
  grd : X.A.guards = some []
  loc : ∀ x, locB osc x = true → L2.Loc sc x ∧ (X.fn x = true ∨ sc.names.lookup x = some .local)
  cal : ∀ (f : Nat) (d : Fn), tb.fns[f]? = some d → ∃ fa fd, X.mg d.name = some (.ref fa) ∧ PySem.W.keepIn X.K (.ref fa) = true ∧ Binds X.K fd (d.N.take d.np) [] ∧
    FnG X.prog X.w X.K X.mg X.base (L2.CX X.prog X.w) k fa fd (d.N.take d.np) (spF X.K X.mg d.np d.fr d.dfr (c.cal f))
  bi : ∀ x ∈ tb.bs, X.mg x = mgB x
  gl : ∀ (i : Nat) (x : Str) (t : Tr), tb.gls[i]? = some x → c.gl[i]? = some t → ∃ v u, X.mg x = some u ∧ RelV v u ∧ ∀ H O, Rp X.K H O v t
  exs : ∀ x ∈ tb.exs, ∃ C, ExF X.K X.mg x C
  exm : ∀ x y b, tb.exm.lookup (x, y) = some b → ExmF X.K X.mg x y b
  kit : ∀ x y b, tb.kit.lookup (x, y) = some b → KitF X.K X.mg x y b
section
variable {tb : Tb} {c : Ctx} {k : Nat} {N : List Str} {W : WX} {X : Cx} {sc osc : Scope}
theorem XOk.hu (x : XOk tb c k N W X sc osc) : X.A.units + 100 < cLine := by have := x.room.un; omega
theorem XOk.vis (x : XOk tb c k N W X sc osc) {y : Str} (h : visB sc y = true) : Vis X.env.scope y := by
  rw [x.hsc]
  unfold visB at h
  unfold Vis
  split at h <;> first | exact .inl (by assumption) | exact .inr (.inl (by assumption)) | exact .inr (.inr (by assumption)) | cases h
theorem XOk.glob (x : XOk tb c k N W X sc osc) {y : Str} (h : glB sc y = true) : Gl X y ∧ (y == ("__debug__" : Str)) = false := by
  unfold glB at h
  rw [Bool.and_eq_true, decide_eq_true_eq] at h
  refine ⟨?_, by simpa using h.2⟩
  show X.env.scope.names.lookup y = _
  rw [x.hsc]
  exact h.1
/-- in a comprehension's block -/
theorem XOk.blk (x : XOk tb c k N W X sc osc) {s : Shared} {H : Hp} {scope : Scope} {C : Addr} {cl : List (Str × Addr)} {fp : List Addr} :
    XOk tb c k N (fun _ _ _ _ => False) (X.blk s H scope (compEnvC scope cl C X.env) fp) (relS scope sc) scope where
  hN := x.hN
  sz := x.sz
  nd := x.nd
  hsc := by
    show relS scope X.env.scope = _
    rw [x.hsc]
  calm := x.calm
  tk := takes0
  room := x.room
  grd := x.grd
  loc := fun y h => by
    have key : ∀ k, k ≠ NameKind.free → scope.names.lookup y = some k → (relS scope sc).names.lookup y = some k := fun k hk e => lookup_relS_keep hk e
    unfold locB at h
    split at h
    · rename_i e
      exact ⟨.inl (key _ (by decide) e), .inr (key _ (by decide) e)⟩
    · rename_i e
      refine ⟨.inr (key _ (by decide) e), .inl ?_⟩
      show (scope.names.lookup y == some NameKind.cell) = true
      rw [e]
      rfl
    · cases h
  cal := x.cal
  bi := x.bi
  gl := x.gl
  exs := x.exs
  exm := x.exm
  kit := x.kit
end
theorem _root_.L2.PE.to {X : Cx} {e : Expr} {t t' : TE} (h : PE X e t) (i : ∀ σ H Q, t' σ H Q → t σ H Q) : PE X e t' := ⟨fun pins s σ H Q I q => h.run pins s σ H Q I (i σ H Q q)⟩
theorem _root_.L2.PT.to {X : Cx} {e : Expr} {t t' : TT} (h : PT X e t) (i : ∀ σ H Q, t' σ H Q → t σ H Q) : PT X e t' := ⟨fun pins s σ H Q I q => h.run pins s σ H Q I (i σ H Q q)⟩
theorem _root_.L2.PA.to {X : Cx} {e : List Expr} {t t' : TA} (h : PA X e t) (i : ∀ σ H Q, t' σ H Q → t σ H Q) : PA X e t' := ⟨fun pos pins s σ H Q I q => h.run pos pins s σ H Q I (i σ H Q q)⟩
theorem _root_.L2.PS.to {X : Cx} {e : Stmt} {t t' : TS} (h : PS X e t) (i : ∀ D σ H, t' D σ H → t D σ H) : PS X e t' := ⟨fun pins s σ H D I q => h.run pins s σ H D I (i D σ H q)⟩
theorem _root_.L2.PSs.to {X : Cx} {e : List Stmt} {t t' : TS} (h : PSs X e t) (i : ∀ D σ H, t' D σ H → t D σ H) : PSs X e t' := ⟨fun pins s σ H D I q => h.run pins s σ H D I (i D σ H q)⟩
theorem star_cons {x : Expr} {xs : List Expr} {env : PySem.Env} (h : notStar x = true) : starEach (x :: xs) env = (false, eval x env) :: starEach xs env := by
  cases x <;> first | rfl | cases h
theorem star_any {env : PySem.Env} {pos : Pos} : ∀ {xs : List Expr}, (∀ x ∈ xs, notStar x = true) → (backTo pos (starEach xs env)).any (·.1) = false
  | [], _ => rfl
  | x :: xs, h => by
    rw [star_cons (h x List.mem_cons_self)]
    show (false || (backTo pos (starEach xs env)).any (·.1)) = false
    rw [star_any fun y hy => h y (List.mem_cons_of_mem _ hy)]
    rfl
theorem mEs_star {tb : Tb} {N : List Str} {sc : Scope} : ∀ {es : Exs} {xs : List Expr}, mEs tb N sc es xs = true → ∀ x ∈ xs, notStar x = true
  | .nil, xs, h, x, hx => by
    cases xs with
    | nil => cases hx
    | cons y ys => rw [mEs] at h; cases h
  | .cons e es, [], h, x, hx => by cases hx
  | .cons e es, y :: ys, h, x, hx => by
    rw [mEs] at h
    simp only [Bool.and_eq_true] at h
    rcases List.mem_cons.mp hx with rfl | hx
    · exact h.1.1
    · exact mEs_star h.2 x hx
end Jr

/-! t[::-1] of a tuple. -/
namespace Jr
open PySem PySem.Spec PyProof.Rows L2
theorem rev_adjust (n : Nat) : Builtin.Slice.sliceAdjust none none (-1) (n : Int) = ((n : Int) - 1, -1) := rfl
theorem rev_places (n : Nat) : Builtin.Slice.slicePlaces ((n : Int) - 1) (-1) (-1) = n := by
  unfold Builtin.Slice.slicePlaces
  rw [if_neg (by decide)]
  by_cases h : (n : Int) - 1 > -1
  · rw [if_pos h, show (n : Int) - 1 - -1 - 1 = (n : Int) - 1 by omega, show (-(-1 : Int)) = 1 by decide, Int.ediv_one]
    omega
  · rw [if_neg h]
    omega
theorem rev_pick (xs : Array Value) : ((List.range xs.size).filterMap fun (m : Nat) => xs[(((xs.size : Int) - 1) + (m : Int) * -1).toNat]?).toArray = xs.toList.reverse.toArray := by
  refine congrArg List.toArray ?_
  refine List.ext_getElem? fun i => ?_
  have key : ∀ (k : Nat), k ≤ xs.size → (List.range k).filterMap (fun (m : Nat) => xs[(((xs.size : Int) - 1) + (m : Int) * -1).toNat]?) = xs.toList.reverse.take k := by
    intro k
    induction k with
    | zero => intro _; rfl
    | succ k ih =>
      intro hk
      rw [List.range_succ, List.filterMap_append, ih (by omega), List.take_succ_eq_append_getElem (by rw [List.length_reverse, Array.length_toList]; omega)]
      refine congrArg _ ?_
      have e : (((xs.size : Int) - 1) + (k : Int) * -1).toNat = xs.size - 1 - k := by omega
      have hg : xs[(((xs.size : Int) - 1) + (k : Int) * -1).toNat]? = some (xs[xs.size - 1 - k]'(by omega)) := by
        rw [e]
        exact Array.getElem?_eq_getElem (by omega)
      rw [List.filterMap_cons, hg]
      show [xs[xs.size - 1 - k]] = _
      rw [List.getElem_reverse]
      simp
  rw [key xs.size (Nat.le_refl _), List.take_of_length_le (by rw [List.length_reverse, Array.length_toList]; exact Nat.le_refl _)]
section
variable {prog : Program} {w : World} {A : Around} {E : Value → Shared → Prop} {s : Shared}
theorem sliceApplied_rev {sl : Addr} {vs : Value} {n : Nat} {Q : Int × Int × Nat → Shared → Prop} (hs : s.heap.IsSliceOf sl .none .none vs) (ps : IsPart vs (some (-1)))
    (h : Q ((n : Int) - 1, -1, n) s) : wpAny (model prog w) A (Builtin.Slice.sliceApplied (.ref sl) (pure (n : Int))) Q E s := by
  obtain ⟨os, hos, hcs, hds⟩ := id hs
  unfold Builtin.Slice.sliceApplied Builtin.Slice.sliceFields
  refine wpAny_bind (wpAny_bind (wpAny_field hos hds (x := .none) rfl (wpAny_bind (wpAny_field hos hds (x := .none) rfl (wpAny_bind (wpAny_field hos hds (x := vs) rfl (wpAny_pure ?_)))))))
  refine wpAny_bind (HT.slicePart_ ps ?_)
  show wpAny _ _ (if ((-1 : Int) == 0) = true then _ else _) _ _ s
  rw [if_neg (by decide)]
  refine wpAny_bind (HT.slicePart_ .none (wpAny_bind (HT.slicePart_ .none (wpAny_bind (wpAny_pure ?_)))))
  show wpAny _ _ (match Builtin.Slice.sliceAdjust none none (-1) (n : Int) with | (lo, hi) => pure (lo, (-1 : Int), Builtin.Slice.slicePlaces lo hi (-1))) _ _ s
  rw [rev_adjust n]
  show wpAny _ _ (pure ((n : Int) - 1, (-1 : Int), Builtin.Slice.slicePlaces ((n : Int) - 1) (-1) (-1))) _ _ s
  rw [rev_places]
  exact wpAny_pure h
theorem getItem_tuple_rev {t sl : Addr} {items : Array Value} {vs : Value} {Q : Value → Shared → Prop} (ht : IsTup s.heap t items) (hs : s.heap.IsSliceOf sl .none .none vs) (ps : IsPart vs (some (-1)))
    (h : Q (.ref s.heap.objs.size) { s with heap := s.heap.push { cls := .type "tuple", data := .seq items.toList.reverse.toArray } })
    (hsz : items.size ≤ sizeLine) : wpAny (model prog w) A (getItem (.ref t) (.ref sl)) Q E s := by
  have htake : sizeOk (.seq items.toList.reverse.toArray) := by
    show items.toList.reverse.toArray.size ≤ sizeLine
    rw [List.size_toArray, List.length_reverse, Array.length_toList]
    exact hsz
  obtain ⟨os, hos, hcs, hds⟩ := id hs
  have hTs : s.TypeIs (.ref sl) "slice" := ⟨os, hos, hcs⟩
  unfold getItem
  try with_reducible refine wpAny_holding ?_
  first | refine wpAny_bind (wpAny_pure ?_) | skip
  refine wpAny_bind (wpAny_sequenceKey ht.typeIs (by decide) ?_)
  refine wpAny_bind (wpAny_callSpecial?_slot (name := Str.ofString "__getitem__") ht.typeIs PyProof.Rows.slot_tuple_getitem
    (wpAny_call_entry PyProof.Rows.slot_tuple_getitem ht.typeIs PyProof.Rows.entry_tuple_getitem ?_ (PyProof.Rows.args_tuple_getitem _ _)))
  show wpAny _ _ (Builtin.Tuple.tupleItemsOf (.ref t) >>= _) _ _ s
  refine wpAny_bind (tupleItemsOf_ ht ?_)
  refine wpAny_bind (wpAny_typeOf hTs ?_)
  rw [if_pos (by decide)]
  refine wpAny_bind (sliceApplied_rev hs ps ?_)
  have hno : ¬ ((((items.size : Int) - 1) == 0 && (-1 : Int) == 1 && items.size == items.size) = true) := by
    intro q
    rw [Bool.and_eq_true, Bool.and_eq_true] at q
    exact absurd q.1.2 (by decide)
  show wpAny _ _ (if (((items.size : Int) - 1) == 0 && (-1 : Int) == 1 && items.size == items.size) = true then _ else _) _ _ s
  rw [if_neg hno, rev_pick]
  first
    | exact wpAny_bind (m := Builtin.Tuple.tupleExact _) (wpAny_newObj_type (wpAny_pure ⟨_, rfl, wpAny_pure h⟩) htake)
    | exact wpAny_bind (m := Builtin.Tuple.tupleExact _) (wpAny_newObj_type (wpAny_bind (wpAny_pure (wpAny_pure ⟨_, rfl, wpAny_pure h⟩))) htake)
    | exact wpAny_bind (wpAny_bind (m := Builtin.Tuple.tupleExact _) (wpAny_newObj_type (wpAny_pure (wpAny_pure ⟨_, rfl, wpAny_pure h⟩)) htake))
    | exact wpAny_bind (wpAny_bind (m := Builtin.Tuple.tupleExact _) (wpAny_newObj_type (wpAny_pure ⟨_, rfl, wpAny_pure h⟩) htake))
end
/-! ### xs[lo:hi:k] of a list -/
theorem step_bounds (lo hi : Option Int) (n k : Nat) (hk : 1 ≤ k) : (sliceBounds lo hi (some (k : Int)) n).1 = ((HT.sIx n 0 lo : Nat) : Int) ∧ (sliceBounds lo hi (some (k : Int)) n).2.1 = ((HT.sIx n n hi : Nat) : Int) ∧ (sliceBounds lo hi (some (k : Int)) n).2.2 = (k : Int) := by
  have hp : (k : Int) > 0 := by omega
  refine ⟨?_, ?_, rfl⟩
  · cases lo with
    | none =>
      have : ¬ k = 0 := by omega
      simp [sliceBounds, HT.sIx, hk, this]
    | some i =>
      simp only [sliceBounds, HT.sIx, Option.getD_some, hp, if_true]
      by_cases h : i < 0
      · simp only [h, if_true] <;> omega
      · simp only [h, if_false] <;> omega
  · cases hi with
    | none =>
      have : ¬ k = 0 := by omega
      simp [sliceBounds, HT.sIx, hk, this]
    | some i =>
      simp only [sliceBounds, HT.sIx, Option.getD_some, hp, if_true]
      by_cases h : i < 0
      · simp only [h, if_true] <;> omega
      · simp only [h, if_false] <;> omega
theorem sIx_le2 (n : Nat) (hi : Option Int) : HT.sIx n n hi ≤ n := by
  cases hi with
  | none => exact Nat.le_refl n
  | some v =>
    show (if v < 0 then (v + (n : Int)).toNat else min v.toNat n) ≤ n
    split <;> omega
theorem stepL_map {α β : Type} (k : Nat) (f : α → β) (l : List α) : stepL k (l.map f) = (stepL k l).map f := by
  unfold stepL
  rw [List.length_map, List.map_filterMap]
  refine congrArg (fun g => List.filterMap g _) ?_
  funext j
  rw [List.getElem?_map]
theorem slicePick_step (its : List Value) (lo hi : Option Int) (k : Nat) (hk : 1 ≤ k) : slicePick its.toArray lo hi (some (k : Int)) = (stepL k ((its.drop (HT.sIx its.length 0 lo)).take (HT.sIx its.length its.length hi - HT.sIx its.length 0 lo))).toArray := by
  obtain ⟨h1, h2, h3⟩ := step_bounds lo hi its.toArray.size k hk
  unfold slicePick
  rw [h1, h2, h3, List.size_toArray]
  refine congrArg List.toArray ?_
  have hb := sIx_le2 its.length hi
  generalize HT.sIx its.length 0 lo = a
  generalize HT.sIx its.length its.length hi = b at hb
  unfold sliceRange stepL
  have hp : (k : Int) > 0 := by omega
  have hlen : ((its.drop a).take (b - a)).length = b - a := by
    rw [List.length_take, List.length_drop]
    omega
  rw [hlen]
  simp only [hp, if_true]
  have hc : (if (a : Int) < (b : Int) then ((b : Int) - (a : Int) + (k : Int) - 1) / (k : Int) else 0).toNat = (b - a + k - 1) / k := by
    by_cases h : a < b
    · rw [if_pos (by omega), show (b : Int) - (a : Int) + (k : Int) - 1 = ((b - a + k - 1 : Nat) : Int) by omega, ← Int.natCast_ediv, Int.toNat_natCast]
    · rw [if_neg (by omega), show b - a + k - 1 = k - 1 by omega, Nat.div_eq_of_lt (by omega)]
      rfl
  rw [hc, List.filterMap_map]
  have key : ∀ m : Nat, m ≤ (b - a + k - 1) / k → List.filterMap ((fun x => its.toArray[x]?) ∘ fun j : Nat => ((a : Int) + (k : Int) * (j : Int)).toNat) (List.range m) = List.filterMap (fun j => ((its.drop a).take (b - a))[k * j]?) (List.range m) := by
    intro m hm
    induction m with
    | zero => rfl
    | succ m ih =>
      rw [List.range_succ, List.filterMap_append, List.filterMap_append, ih (by omega)]
      refine congrArg _ ?_
      have e1 : ((a : Int) + (k : Int) * (m : Int)).toNat = a + k * m := by
        rw [show (k : Int) * (m : Int) = ((k * m : Nat) : Int) from (Int.natCast_mul k m).symm]
        omega
      have hlt : k * m < b - a := by
        have h5 : (m + 1) * k ≤ b - a + k - 1 := (Nat.le_div_iff_mul_le (by omega)).mp hm
        have h6 : (m + 1) * k = k * m + k := by rw [Nat.add_mul, Nat.mul_comm m k]; omega
        omega
      simp only [List.filterMap_cons, List.filterMap_nil, Function.comp]
      rw [e1, List.getElem?_take, if_pos hlt, List.getElem?_drop]
      simp
  exact key _ (Nat.le_refl _)
theorem stepL_len {α : Type} (k : Nat) (hk : 1 ≤ k) (l : List α) : (stepL k l).length ≤ l.length := by
  unfold stepL
  refine Nat.le_trans (List.length_filterMap_le _ _) ?_
  rw [List.length_range]
  rcases Nat.eq_zero_or_pos l.length with h | h
  · rw [h, Nat.div_eq_of_lt (by omega)]
    exact Nat.le_refl 0
  · rw [Nat.div_le_iff_le_mul_add_pred (by omega)]
    have : l.length * 1 ≤ k * l.length := by rw [Nat.mul_one, Nat.mul_comm]; exact Nat.le_mul_of_pos_right _ hk
    omega
theorem Vals.stepL (k : Nat) {xs : List V} {us : List Value} (r : Vals xs us) : Vals (Jr.stepL k xs) (Jr.stepL k us) := by
  unfold Jr.stepL
  rw [r.length]
  generalize (us.length + k - 1) / k = m
  induction m with
  | zero => exact .nil
  | succ m ih =>
    rw [List.range_succ, List.filterMap_append, List.filterMap_append]
    refine ih.append ?_
    simp only [List.filterMap_cons, List.filterMap_nil]
    rcases Nat.lt_or_ge (k * m) us.length with h | h
    · have h' : k * m < xs.length := by rw [r.length]; exact h
      obtain ⟨u, hu, ru⟩ := r.get (List.getElem?_eq_getElem h')
      rw [hu, List.getElem?_eq_getElem h']
      exact .cons ru .nil
    · rw [List.getElem?_eq_none h, List.getElem?_eq_none (by rw [r.length]; exact h)]
      exact .nil
theorem Rps.stepL (k : Nat) {K : PySem.W.Frag} {H : Hp} {Av : Addr → Prop} {vs : List V} {ts : List Tr} (r : Rps K H Av vs ts) : Rps K H Av (Jr.stepL k vs) (Jr.stepL k ts) := by
  unfold Jr.stepL
  rw [r.length]
  generalize (ts.length + k - 1) / k = m
  induction m with
  | zero => exact .nil
  | succ m ih =>
    rw [List.range_succ, List.filterMap_append, List.filterMap_append]
    refine ih.append ?_
    simp only [List.filterMap_cons, List.filterMap_nil]
    cases h : ts[k * m]? with
    | none =>
      have : vs[k * m]? = none := List.getElem?_eq_none (by rw [r.length]; exact List.getElem?_eq_none_iff.mp h)
      rw [this]
      exact .nil
    | some t =>
      obtain ⟨v, hv, rv⟩ := r.get h
      rw [hv]
      exact .cons rv .nil
section
variable {X : Cx}
def tSlk (K : PySem.W.Frag) (k : Nat) (te : TE) (tl th : TO) : TE := fun σ H Q => te σ H fun x H1 => tl σ H1 fun l H2 => th σ H2 fun u H3 => ∃ a xs, x = .ref a ∧ SqL K H3 a xs ∧ ∀ p, H3 p = none → Q (.ref p) (L2.upd H3 p (.lst (Jr.stepL k (cutV xs l u))))
theorem pe_slk {e : Expr} {lo hi : Option Expr} {te : TE} {tl th : TO} {k : Nat} {j : Nat} {p1 p2 pos : Pos} (hk : 1 ≤ k) (he : PE X e te) (hl : PO X lo tl) (hu : PO X hi th) : PE X (.Subscript e (.Slice lo hi (some (.Constant (.int (k : Int)) j p1)) p2) pos) (tSlk X.K k te tl th) := by
  refine ⟨fun pins s σ H Q I h => ?_⟩
  refine Subscript_ (thn (he.run pins s σ H _ I h) fun v s1 ⟨x, H1, I1, r1, q1⟩ => ?_)
  have hst : PO X (some (.Constant (.int (k : Int)) j p1)) (tPart (tC (.int (k : Int)))) := po_some pe_int
  refine wpAny_Slice (thn (hl.run pins s1 σ H1 _ I1 q1) fun vl s2 ⟨l, H2, I2, pl, q2⟩ => thn (hu.run pins s2 σ H2 _ I2 q2) fun vu s3 ⟨u, H3, I3, pu, q3⟩ => ?_)
  refine thn (hst.run pins s3 σ H3 (fun o H4 => o = some (k : Int) ∧ H4 = H3) I3 ⟨_, rfl, rfl, rfl⟩) fun vs s4 ⟨o, H4, I4, ps, eo, e4⟩ => ?_
  subst eo e4
  have I5 : Inv X pins σ H4 { s4 with heap := s4.heap.push { cls := .type "slice", data := .fields #[vl, vu, vs] } } := I4.kept (t' := s4.toks) fun b ob q => Heap.get?_push_of_some _ q
  obtain ⟨a, xs, ex, hx, q⟩ := q3
  subst ex
  cases r1
  obtain ⟨its, r, ht, hz⟩ := I5.list hx
  have hlen := r.length
  show wpAny (model X.prog X.w) X.A (subscriptTail e (.Slice lo hi (some (.Constant (.int (k : Int)) j p1)) p2) (.ref a) (.ref s4.heap.objs.size)) (EP X pins σ Q) X.xe { s4 with heap := s4.heap.push { cls := .type "slice", data := .fields #[vl, vu, vs] } }
  refine tail_any (ops := [.ref a, .ref s4.heap.objs.size]) ht.isList.typeIs (PySem.slot_list_getitem.lookup) ?_ (by with_unfolding_all rfl)
  refine wpAny_getItem_list_slice ht.isList (Heap.IsSliceOf.new _ vl vu vs) pl pu ps (fun z => by have := Option.some.inj z; omega) ?_ (by rw [List.size_toArray]; omega)
  rw [slicePick_step _ _ _ _ hk, ← hlen]
  refine ⟨.ref _, _, I5.laid (t' := s4.toks) (o := .lst (Jr.stepL k (cutV xs l u))) (fun b ob q => Heap.get?_push_of_some _ q) (Nat.le_refl _) ?_, rfl, q _ (I5.hok.fresh (Nat.le_refl _))⟩
  exact ⟨Nat.le_trans (stepL_len k hk _) (Nat.le_trans (cutV_length xs l u) hz), _, 0, Vals.stepL k ((r.drop (HT.sIx xs.length 0 l)).take (HT.sIx xs.length xs.length u - HT.sIx xs.length 0 l)), Heap.get?_push_size _ rfl⟩
end
section
variable {X : Cx}
def tRev2 (K : PySem.W.Frag) (te : TE) : TE := fun σ H Q => te σ H fun x H1 => (∃ a xs, x = .ref a ∧ SqL K H1 a xs ∧ ∀ p, H1 p = none → Q (.ref p) (L2.upd H1 p (.lst xs.reverse))) ∨ (∃ a xs, x = .ref a ∧ SqT K H1 a xs ∧ ∀ p, H1 p = none → Q (.ref p) (L2.upd H1 p (.tup xs.reverse)))
theorem pe_rev2 {e : Expr} {te : TE} {k : Nat} {p1 p2 p3 pos : Pos} (he : PE X e te) : PE X (.Subscript e (.Slice none none (some (.UnaryOp .USub (.Constant (.int 1) k p1) p2)) p3) pos) (tRev2 X.K te) := by
  refine ⟨fun pins s σ H Q I h => ?_⟩
  refine Subscript_ (thn (he.run pins s σ H _ I h) fun v s1 ⟨x, H1, I1, r1, q1⟩ => ?_)
  have hst : PO X (some (.UnaryOp .USub (.Constant (.int 1) k p1) p2)) (tPart (tUn (rU fun i => .int (-i)) (tC (.int 1)))) := po_some (pe_un un_neg pe_int)
  refine wpAny_Slice (thn (po_none.run pins s1 σ H1 (fun o H2 => o = none ∧ H2 = H1) I1 ⟨rfl, rfl⟩) fun vl s2 ⟨l, H2, I2, pl, el, e2⟩ => ?_)
  subst el e2
  refine thn (po_none.run pins s2 σ H2 (fun o H3 => o = none ∧ H3 = H2) I2 ⟨rfl, rfl⟩) fun vu s3 ⟨u, H3, I3, pu, eu, e3⟩ => ?_
  subst eu e3
  refine thn (hst.run pins s3 σ H3 (fun o H4 => o = some (-1) ∧ H4 = H3) I3 ⟨1, rfl, -1, rfl, rfl, rfl⟩) fun vs s4 ⟨o, H4, I4, ps, eo, e4⟩ => ?_
  subst eo e4
  have I5 : Inv X pins σ H4 { s4 with heap := s4.heap.push { cls := .type "slice", data := .fields #[vl, vu, vs] } } := I4.kept (t' := s4.toks) fun b ob q => Heap.get?_push_of_some _ q
  rcases q1 with ⟨a, xs, ex, hx, q⟩ | ⟨a, xs, ex, hx, q⟩
  · subst ex
    cases r1
    obtain ⟨its, r, ht, hz⟩ := I5.list hx
    have hlen := r.length
    show wpAny (model X.prog X.w) X.A (subscriptTail e (.Slice none none (some (.UnaryOp .USub (.Constant (.int 1) k p1) p2)) p3) (.ref a) (.ref s4.heap.objs.size)) (EP X pins σ Q) X.xe { s4 with heap := s4.heap.push { cls := .type "slice", data := .fields #[vl, vu, vs] } }
    refine tail_any (ops := [.ref a, .ref s4.heap.objs.size]) ht.isList.typeIs (PySem.slot_list_getitem.lookup) ?_ (by with_unfolding_all rfl)
    refine wpAny_getItem_list_slice ht.isList (Heap.IsSliceOf.new _ vl vu vs) pl pu ps (by decide) ?_ (by rw [List.size_toArray]; omega)
    rw [PySem.W.krv_pick]
    refine ⟨.ref _, _, I5.laid (t' := s4.toks) (o := .lst xs.reverse) (fun b ob q => Heap.get?_push_of_some _ q) (Nat.le_refl _) ?_, rfl, q _ (I5.hok.fresh (Nat.le_refl _))⟩
    exact ⟨by rw [List.length_reverse]; exact hz, _, 0, r.reverse, Heap.get?_push_size _ rfl⟩
  · subst ex
    cases r1
    obtain ⟨its, r, ht, hz⟩ := I5.tuple hx
    have hlen := r.length
    cases pl
    cases pu
    show wpAny (model X.prog X.w) X.A (subscriptTail e (.Slice none none (some (.UnaryOp .USub (.Constant (.int 1) k p1) p2)) p3) (.ref a) (.ref s4.heap.objs.size)) (EP X pins σ Q) X.xe { s4 with heap := s4.heap.push { cls := .type "slice", data := .fields #[.none, .none, vs] } }
    refine tail_any (ops := [.ref a, .ref s4.heap.objs.size]) ht.typeIs PyProof.Rows.slot_tuple_getitem.lookup ?_ (by with_unfolding_all rfl)
    refine getItem_tuple_rev ht (Heap.IsSliceOf.new _ .none .none vs) ps ?_ (by rw [List.size_toArray]; omega)
    refine ⟨.ref _, _, I5.laid (t' := s4.toks) (o := .tup xs.reverse) (fun b ob q => Heap.get?_push_of_some _ q) (Nat.le_refl _) ?_, rfl, q _ (I5.hok.fresh (Nat.le_refl _))⟩
    exact ⟨by rw [List.length_reverse]; exact hz, _, r.reverse, IsTup.new _ _⟩
end
end Jr

/-! The expressions, construct by construct. -/
namespace Jr
open PySem PySem.Spec PyProof.Rows L2

/-- it raises nothing -/
def Qt {α : Type} (r : R α) : Prop := ∀ x, r ≠ .ex x
theorem Go.ok {α : Type} {mg : Str → Option Value} {W : WX} {σ : L2.St} {H : Hp} {r : R α} {k : α → Prop} (h : Go mg W σ H r k) (q : Qt r) : ∃ t, r = .ok t ∧ k t := by
  cases r with
  | ok a => exact ⟨a, rfl, h⟩
  | ex x => exact absurd rfl (q x)
  | no => exact h.elim
theorem qt_if {α : Type} {c : Prop} [Decidable c] {a : α} : Qt (if c then R.ok a else .no) := fun x h => by
  split at h <;> cases h
theorem qt_binT (o : BinO) (a b : Tr) : Qt (binT o a b) := fun x h => by
  unfold binT at h
  split at h <;> (repeat' split at h) <;> cases h
theorem qt_ordT (f : Tr → Tr → Bool) (a b : Tr) : Qt (ordT f a b) := qt_if
theorem qt_eqT (a b : Tr) : Qt (eqT a b) := fun x h => by
  rcases eqT_cases a b with ⟨y, z, rfl, rfl⟩ | e
  · cases h
  · rw [e] at h
    exact qt_if x h
theorem qt_innT (a b : Tr) : Qt (innT a b) := fun x h => by
  unfold innT at h
  split at h <;> (repeat' split at h) <;> cases h
theorem qt_isT (a b : Tr) : Qt (isT a b) := fun x h => by
  unfold isT at h
  split at h <;> cases h
theorem qt_not {r : R Bool} (h : Qt r) : Qt (r.bind fun r => R.ok (!r)) := fun x e => by
  cases r with
  | ok b => cases e
  | ex y => exact h y rfl
  | no => cases e
theorem qt_cmpT (o : CmpO) (a b : Tr) : Qt (cmpT o a b) := by
  cases o with
  | eq => exact qt_eqT a b
  | ne => exact qt_not (qt_eqT a b)
  | lt =>
    intro x h
    have h' : ltT a b = .ex x := h
    unfold ltT at h'
    split at h'
    · cases h'
    · exact qt_ordT _ _ _ x h'
  | le =>
    intro x h
    have h' : leT a b = .ex x := h
    unfold leT at h'
    split at h'
    · cases h'
    · exact qt_ordT _ _ _ x h'
  | gt =>
    intro x h
    have h' : gtT a b = .ex x := h
    unfold gtT at h'
    split at h'
    · cases h'
    · exact qt_ordT _ _ _ x h'
  | ge =>
    intro x h
    have h' : geT a b = .ex x := h
    unfold geT at h'
    split at h'
    · cases h'
    · exact qt_ordT _ _ _ x h'
  | is => exact qt_isT a b
  | isnot => exact qt_not (qt_isT a b)
  | inn => exact qt_innT a b
  | notin => exact qt_not (qt_innT a b)
theorem qt_tru (t : Tr) : Qt (tru t) := fun x h => by
  unfold tru at h
  split at h <;> (repeat' split at h) <;> cases h
theorem qt_ofO {α : Type} (o : Option α) : Qt (ofO o) := fun x h => by
  cases o <;> cases h
theorem qt_bind {α β : Type} {r : R α} {f : α → R β} (h : Qt r) (hf : ∀ a, Qt (f a)) : Qt (r.bind f) := fun x e => by
  cases r with
  | ok a => exact hf a x e
  | ex y => exact h y rfl
  | no => cases e
theorem qt_ok {α : Type} (a : α) : Qt (R.ok a) := fun x h => by cases h
theorem qt_no {α : Type} : Qt (R.no : R α) := fun x h => by cases h
theorem qt_idxT (a b : Tr) : Qt (idxT a b) := by
  unfold idxT
  split
  · exact qt_ofO _
  · exact qt_ofO _
  · exact qt_ofO _
  · exact qt_no
theorem qt_slcT (a : Tr) (l h : Option Int) : Qt (slcT a l h) := fun x e => by
  unfold slcT at e
  split at e <;> cases e
theorem qt_biT (b : Bi) (ts : List Tr) : Qt (biT b ts) := by
  unfold biT
  split <;> first
    | exact qt_ok _
    | exact qt_if
    | exact qt_no
    | exact qt_bind (qt_ofO _) fun _ => qt_ok _

section
variable {tb : Tb} {c : Ctx} {k : Nat} {N : List Str} {W : WX} {X : Cx} {sc osc : Scope}
abbrev SE (tb : Tb) (c : Ctx) (W : WX) (X : Cx) (x : Expr) (e : Ex) : Prop := PE X x (rdE X.mg X.K tb c W e)
abbrev SC (tb : Tb) (c : Ctx) (W : WX) (X : Cx) (x : Expr) (e : Ex) : Prop := PT X x (rdC X.mg X.K c W e)
abbrev SA (tb : Tb) (c : Ctx) (W : WX) (X : Cx) (xs : List Expr) (es : Exs) : Prop := PA X xs (rdA X.mg X.K c W es)

/-! ### constants, names -/
theorem s_int {i : Int} {j : Nat} {pos : Pos} : SE tb c W X (.Constant (.int i) j pos) (.int i) := pe_int.to fun σ H Q ⟨g, ρ, r, h⟩ => h H _ (Same.refl H) (Rz.of rfl (.int i) fun _ => nofr fun _ z => nomatch z)
theorem s_bl {i : Bool} {j : Nat} {pos : Pos} : SE tb c W X (.Constant (.bool i) j pos) (.bl i) := pe_bl.to fun σ H Q ⟨g, ρ, r, h⟩ => h H _ (Same.refl H) (Rz.of rfl (.bl i) fun _ => nofr fun _ z => nomatch z)
theorem s_non {j : Nat} {pos : Pos} : SE tb c W X (.Constant .none j pos) .non := pe_non.to fun σ H Q ⟨g, ρ, r, h⟩ => h H _ (Same.refl H) (Rz.of rfl .non fun _ => nofr fun _ z => nomatch z)
theorem s_str {i : Str} {j : Nat} {pos : Pos} : SE tb c W X (.Constant (.str i) j pos) (.str i) := pe_str.to fun σ H Q ⟨g, ρ, r, h⟩ => h H _ (Same.refl H) (Rz.of rfl (.str i) fun _ => nofr fun _ z => nomatch z)
theorem s_var (x : XOk tb c k N W X sc osc) {i : Nat} {n : Str} {pos : Pos} (h : varB N sc i n = true) : SE tb c W X (.Name n pos) (.var i) := by
  unfold varB at h
  simp only [Bool.and_eq_true, decide_eq_true_eq] at h
  refine (pe_var (i := i) (by rw [x.hN]; exact h.1.1.1) (x.vis h.1.1.2) (by simpa using h.1.2) (by simpa using h.2)).to fun σ H Q ⟨g, ρ, r, q⟩ => ?_
  have q : Go X.mg W σ H (ofO (ρ[i]?.getD none)) fun t => ∀ H' w, Same H H' → Rz X.K tb g (.var i) H H' w t → Q w H' := q
  cases e : ρ[i]? with
  | none => rw [e] at q; exact q.elim
  | some o =>
    cases o with
    | none => rw [e] at q; exact q.elim
    | some t =>
      rw [e] at q
      obtain ⟨v, h1, h2, h3⟩ := r.val i t e
      refine ⟨v, h1, q H v (Same.refl H) ⟨?_, h2, fun z => nomatch (show false = true from z)⟩⟩
      rcases h3 with ⟨a, ts, e1, e2, e3⟩ | ⟨h4, _⟩
      · subst e2
        subst e3
        refine (h2.less r.av_item).rp fun a' ts' e4 _ => ?_
        cases e4
        rintro (z | ⟨j, ej, nj⟩ | ⟨z, _⟩)
        · exact (r.own i a e1).2.2.2 z
        · exact nj (by rw [r.inj j i a ej e1]; exact List.mem_singleton.mpr rfl)
        · exact (r.own2 i a e1).1 z
      · exact h4.less r.av_item
theorem s_gl (x : XOk tb c k N W X sc osc) {i : Nat} {n : Str} {pos : Pos} (h1 : tb.gls[i]? = some n) (h2 : glB sc n = true) : SE tb c W X (.Name n pos) (.gl i) := by
  obtain ⟨hg, hd⟩ := x.glob h2
  cases e : c.gl[i]? with
  | none =>
    refine ⟨fun pins s σ H Q I ⟨g, ρ, r, q⟩ => ?_⟩
    have q : Go X.mg W σ H (ofO c.gl[i]?) fun t => ∀ H' w, Same H H' → Rz X.K tb g (.gl i) H H' w t → Q w H' := q
    rw [e] at q
    exact q.elim
  | some t =>
    obtain ⟨v, u, hm, rv, hr⟩ := x.gl i n t h1 e
    refine (pe_glob hg hm rv hd).to fun σ H Q ⟨g, ρ, r, q⟩ => ?_
    have q : Go X.mg W σ H (ofO c.gl[i]?) fun t => ∀ H' w, Same H H' → Rz X.K tb g (.gl i) H H' w t → Q w H' := q
    rw [e] at q
    exact q H v (Same.refl H) (Rz.of rfl (hr _ _) fun z => nomatch (show false = true from z))
theorem im_go {mg : Str → Option Value} {K : PySem.W.Frag} {a : Ex} {σ : L2.St} {H : Hp} {Q : VK} (h : rdE mg K tb c W (.im a) σ H Q) : rdE mg K tb c W a σ H Q := by
  obtain ⟨g, ρ, r, q⟩ := h
  refine ⟨g, ρ, r, (Go.bind q).imp fun t _ q' H' w s z => ?_⟩
  by_cases hi : im t = true
  · rw [if_pos hi] at q'
    refine q' H' w s ⟨z.rp.im hi, (z.rp.im hi).ri, fun _ => nofr fun ts e => ?_⟩
    subst e
    cases hi
  · rw [if_neg hi] at q'
    exact q'.elim
theorem ims_go {mg : Str → Option Value} {K : PySem.W.Frag} {a : Ex} {σ : L2.St} {H : Hp} {Q : VK} (hf : fresh tb a = true) (h : rdE mg K tb c W (.ims a) σ H Q) : rdE mg K tb c W a σ H Q := by
  obtain ⟨g, ρ, r, q⟩ := h
  refine ⟨g, ρ, r, (Go.bind q).imp fun t _ q' H' w s z => ?_⟩
  by_cases hi : imsT t = true
  · rw [if_pos hi] at q'
    cases t with
    | lst ts =>
      obtain ⟨p, vs, rfl, hp, hp', rr⟩ := z.fr hf ts rfl
      have rp : Rp K H' (g.Av []) (.ref p) (.lst ts) := .lst hp' (fun q => r.av [] p q hp) (rr.im hi)
      refine q' H' _ s ⟨rp, rp.ri, fun _ us e => ?_⟩
      cases e
      exact ⟨p, vs, rfl, hp, hp', rr.im hi⟩
    | _ => cases hi
  · rw [if_neg hi] at q'
    exact q'.elim
theorem s_ims {a : Ex} {x : Expr} (hf : fresh tb a = true) (h : SE tb c W X x a) : SE tb c W X x (.ims a) := h.to fun σ H Q => ims_go hf
theorem s_im {a : Ex} {x : Expr} (h : SE tb c W X x a) : SE tb c W X x (.im a) := h.to fun σ H Q => im_go

/-! ### operators, comparisons -/
theorem mem_l {l l' : List Nat} : ∀ j ∈ l, j ∈ l ++ l' := fun _ z => List.mem_append_left _ z
theorem mem_r {l l' : List Nat} : ∀ j ∈ l', j ∈ l ++ l' := fun _ z => List.mem_append_right _ z
theorem binT_int {o : BinO} {x y t : Tr} (h : listy o = false) (e : binT o x y = .ok t) : ∃ i, t = .int i := by
  unfold binT at e
  split at e <;> first
    | (cases h; done)
    | (cases e; exact ⟨_, rfl⟩)
    | (split at e <;> first | (cases e; exact ⟨_, rfl⟩) | (cases e; done) | (split at e <;> first | (cases e; exact ⟨_, rfl⟩) | (cases e; done)))
    | (cases e; done)
theorem s_bin {o : BinO} {a b : Ex} {x y : Expr} {pos : Pos} (ha : SE tb c W X x a) (hb : SE tb c W X y b) : SE tb c W X (.BinOp x (boO o) y pos) (.bin o a b) :=
  (pe_op (bin_ok o) ha hb).to fun σ H Q ⟨g, ρ, r, q⟩ => ⟨g, ρ, r, (Go.bind q).imp fun tx _ q1 H1 v s1 z1 => ⟨g, ρ, r.mono s1, ((Go.bind q1).mono s1).imp fun ty _ q2 H2 w s2 z2 => by
    obtain ⟨t, e, q3⟩ := q2.ok (qt_binT o tx ty)
    refine ⟨g.Av (escI a ++ escI b), tx, ty, t, (z1.ri.mono s2).less (Gh.av_less mem_l), z2.ri.less (Gh.av_less mem_r), (r.mono (s1.trans s2)).av _, e, fun H3 u s3 rp fr => q3 H3 u ((s1.trans s2).trans s3) ?_⟩
    cases hl : listy o with
    | true =>
      have he : esc (.bin o a b) = escI a ++ escI b := by
        show (if listy o = true then noVar a (esc a) ++ noVar b (esc b) else []) = _
        rw [if_pos hl]
      exact Rz.of rfl (by rw [he]; exact rp) fun _ => by
        rw [he]
        exact fr.before (s1.trans s2)
    | false =>
      obtain ⟨i, rfl⟩ := binT_int hl e
      cases rp
      exact Rz.of rfl (.int _) fun _ => nofr fun _ z => nomatch z⟩⟩
theorem s_neg {a : Ex} {x : Expr} {pos : Pos} (ha : SE tb c W X x a) : SE tb c W X (.UnaryOp .USub x pos) (.neg a) :=
  (pe_un un_neg ha).to fun σ H Q ⟨g, ρ, r, q⟩ => ⟨g, ρ, r, (Go.bind q).imp fun tx _ q1 H1 v s1 z1 => by
    have ri := z1.ri
    cases ri with
    | int i => exact ⟨i, rfl, q1 H1 _ s1 (Rz.of rfl (.int _) fun _ => nofr fun _ z => nomatch z)⟩
    | _ => exact q1.elim⟩
theorem nomark' {y : Expr} {op : CmpOp} (h : notSet y = true) : behindInMarks op y = false := by
  cases y <;> first | rfl | cases h
theorem s_cmp (x : XOk tb c k N W X sc osc) {o : CmpO} {a b : Ex} {y z : Expr} {pos : Pos} (ha : SE tb c W X y a) (hb : SE tb c W X z b) (hs : notSet z = true) : SE tb c W X (.Compare y [coO o] [z] pos) (.cmp o a b) :=
  (pe_cmpR (cmp_ok (by have := x.hu; omega) o) ha hb (nomark' hs)).to fun σ H Q ⟨g, ρ, r, q⟩ => ⟨g, ρ, r, (Go.bind q).imp fun tx _ q1 H1 v s1 z1 => ⟨g, ρ, r.mono s1, ((Go.bind q1).mono s1).imp fun ty _ q2 H2 w s2 z2 => by
    obtain ⟨t, e, q3⟩ := (Go.bind q2).ok (qt_cmpT o tx ty)
    exact ⟨g.Av (escI a ++ escI b), tx, ty, t, (z1.ri.mono s2).less (Gh.av_less mem_l), z2.ri.less (Gh.av_less mem_r), e, q3 H2 _ (s1.trans s2) (Rz.of rfl (.bl _) fun _ => nofr fun _ z => nomatch z)⟩⟩⟩
theorem s_chain (x : XOk tb c k N W X sc osc) {o o' : CmpO} {a b d : Ex} {y z u : Expr} {pos : Pos} (ha : SE tb c W X y a) (hb : SE tb c W X z b) (hd : SE tb c W X u d) (hs : notSet u = true) :
    SE tb c W X (.Compare y [coO o, coO o'] [z, u] pos) (.chain o o' a b d) :=
  (pe_chain (cmp_ok (by have := x.hu; omega) o) (cmp_ok (by have := x.hu; omega) o') ha hb hd (nomark' hs)).to fun σ H Q ⟨g, ρ, r, q⟩ =>
    ⟨g, ρ, r, (Go.bind q).imp fun tx _ q1 H1 v s1 z1 => ⟨g, ρ, r.mono s1, ((Go.bind q1).mono s1).imp fun ty _ q2 H2 w s2 z2 => by
    obtain ⟨t, e, q3⟩ := (Go.bind q2).ok (qt_cmpT o tx ty)
    refine ⟨g.Av (escI a ++ escI b), tx, ty, t, (z1.ri.mono s2).less (Gh.av_less mem_l), z2.ri.less (Gh.av_less mem_r), e, t, rfl, ?_⟩
    cases t with
    | false => exact iteF (q3 H2 _ (s1.trans s2) (Rz.of rfl (.bl _) fun _ => nofr fun _ z => nomatch z))
    | true =>
      refine iteT ⟨g, ρ, r.mono (s1.trans s2), ((Go.bind q3).mono (s1.trans s2)).imp fun tz _ q4 H3 w' s3 z3 => ?_⟩
      obtain ⟨t', e', q5⟩ := (Go.bind q4).ok (qt_cmpT o' ty tz)
      exact ⟨g.Av (escI b ++ escI d), ty, tz, t', (z2.ri.mono s3).less (Gh.av_less mem_l), z3.ri.less (Gh.av_less mem_r), e', q5 H3 _ ((s1.trans s2).trans s3) (Rz.of rfl (.bl _) fun _ => nofr fun _ z => nomatch z)⟩⟩⟩

/-! ### not, and, or, if -/
theorem s_not {a : Ex} {x : Expr} {pos : Pos} (ha : SE tb c W X x a) : SE tb c W X (.UnaryOp .Not x pos) (.not a) :=
  (pe_notT ha).to fun σ H Q ⟨g, ρ, r, q⟩ => ⟨g, ρ, r, (Go.bind q).imp fun tx _ q1 H1 v s1 z1 => by
    obtain ⟨t, e, q3⟩ := (Go.bind q1).ok (qt_tru tx)
    exact ⟨t, tru_of e z1.ri, q3 H1 _ s1 (Rz.of rfl (.bl _) fun _ => nofr fun _ z => nomatch z)⟩⟩
theorem s_and {a b : Ex} {x y : Expr} {r : List Expr} {pos : Pos} (ha : SE tb c W X x a) (hb : SE tb c W X (.BoolOp .And (y :: r) pos) b) : SE tb c W X (.BoolOp .And (x :: y :: r) pos) (.and a b) :=
  (pe_andT ha hb).to fun σ H Q ⟨g, ρ, r, q⟩ => ⟨g, ρ, r, (Go.bind q).imp fun tx _ q1 H1 v s1 z1 => by
    obtain ⟨t, e, q3⟩ := (Go.bind q1).ok (qt_tru tx)
    refine ⟨t, tru_of e z1.ri, ?_⟩
    cases t with
    | false => exact iteF (q3 H1 _ s1 (Rz.of rfl (z1.rp.less (Gh.av_less mem_l)) fun f => (z1.fr (by
        have f' : (fresh tb a && fresh tb b) = true := f
        rw [Bool.and_eq_true] at f'
        exact f'.1)).less (Gh.av_less mem_l)))
    | true =>
      refine iteT ⟨g, ρ, r.mono s1, (q3.mono s1).imp fun ty _ q4 H2 w s2 z2 => q4 H2 w (s1.trans s2) (Rz.of rfl (z2.rp.less (Gh.av_less mem_r)) fun f => ((z2.fr (by
        have f' : (fresh tb a && fresh tb b) = true := f
        rw [Bool.and_eq_true] at f'
        exact f'.2)).before s1).less (Gh.av_less mem_r))⟩⟩
theorem s_or {a b : Ex} {x y : Expr} {r : List Expr} {pos : Pos} (ha : SE tb c W X x a) (hb : SE tb c W X (.BoolOp .Or (y :: r) pos) b) : SE tb c W X (.BoolOp .Or (x :: y :: r) pos) (.or a b) :=
  (pe_orT ha hb).to fun σ H Q ⟨g, ρ, r, q⟩ => ⟨g, ρ, r, (Go.bind q).imp fun tx _ q1 H1 v s1 z1 => by
    obtain ⟨t, e, q3⟩ := (Go.bind q1).ok (qt_tru tx)
    refine ⟨t, tru_of e z1.ri, ?_⟩
    cases t with
    | true => exact iteT (q3 H1 _ s1 (Rz.of rfl (z1.rp.less (Gh.av_less mem_l)) fun f => (z1.fr (by
        have f' : (fresh tb a && fresh tb b) = true := f
        rw [Bool.and_eq_true] at f'
        exact f'.1)).less (Gh.av_less mem_l)))
    | false =>
      refine iteF ⟨g, ρ, r.mono s1, (q3.mono s1).imp fun ty _ q4 H2 w s2 z2 => q4 H2 w (s1.trans s2) (Rz.of rfl (z2.rp.less (Gh.av_less mem_r)) fun f => ((z2.fr (by
        have f' : (fresh tb a && fresh tb b) = true := f
        rw [Bool.and_eq_true] at f'
        exact f'.2)).before s1).less (Gh.av_less mem_r))⟩⟩
theorem evC_eq {d : Ex} (h : d ≠ .nil) (ρ : Env) : evC c d ρ = (evE c d ρ).bind tru := by
  cases d <;> first | rfl | exact absurd rfl h
theorem s_ite {d a b : Ex} {z x y : Expr} {pos : Pos} (hn : d ≠ .nil) (hd : SC tb c W X z d) (ha : SE tb c W X x a) (hb : SE tb c W X y b) : SE tb c W X (.IfExp z x y pos) (.ite d a b) :=
  (pe_ifExp hd ha hb).to fun σ H Q ⟨g, ρ, r, q⟩ => by
    have q : Go X.mg W σ H ((evE c d ρ).bind fun x => (tru x).bind fun t => if t then evE c a ρ else evE c b ρ) fun t => ∀ H' w, Same H H' → Rz X.K tb g (.ite d a b) H H' w t → Q w H' := q
    have q1 : Go X.mg W σ H (evC c d ρ) fun t => Go X.mg W σ H (if t then evE c a ρ else evE c b ρ) fun t => ∀ H' w, Same H H' → Rz X.K tb g (.ite d a b) H H' w t → Q w H' := by
      rw [evC_eq hn]
      cases e : evE c d ρ with
      | ok t =>
        rw [e] at q
        exact Go.bind q
      | ex u => rw [e] at q; exact q
      | no => rw [e] at q; exact q
    refine ⟨g, ρ, r, q1.imp fun t _ q2 H1 s1 => ?_⟩
    cases t with
    | true => exact iteT ⟨g, ρ, r.mono s1, (q2.mono s1).imp fun ty _ q4 H2 w s2 z2 => q4 H2 w (s1.trans s2) (Rz.of rfl (z2.rp.less (Gh.av_less mem_l)) fun f => ((z2.fr (by
        have f' : (fresh tb a && fresh tb b) = true := f
        rw [Bool.and_eq_true] at f'
        exact f'.1)).before s1).less (Gh.av_less mem_l))⟩
    | false => exact iteF ⟨g, ρ, r.mono s1, (q2.mono s1).imp fun ty _ q4 H2 w s2 z2 => q4 H2 w (s1.trans s2) (Rz.of rfl (z2.rp.less (Gh.av_less mem_r)) fun f => ((z2.fr (by
        have f' : (fresh tb a && fresh tb b) = true := f
        rw [Bool.and_eq_true] at f'
        exact f'.2)).before s1).less (Gh.av_less mem_r))⟩

/-! ### tests -/
theorem c_val {a : Ex} {x : Expr} (hn : a ≠ .nil) (ha : SE tb c W X x a) (he : ∀ whole, isTrue x X.env whole = (do let v ← whole; standAt x.pos; holding [v] (truthy v))) : SC tb c W X x a :=
  (pt_truth ha he).to fun σ H Q ⟨g, ρ, r, q⟩ => by
    rw [evC_eq hn] at q
    exact ⟨g, ρ, r, (Go.bind q).imp fun tx _ q1 H1 v s1 z1 => by
      obtain ⟨t, e, q3⟩ := q1.ok (qt_tru tx)
      exact ⟨t, tru_of e z1.ri, q3 H1 s1⟩⟩
theorem c_cmp (x : XOk tb c k N W X sc osc) {o : CmpO} {a b : Ex} {y z : Expr} {pos : Pos} (ha : SE tb c W X y a) (hb : SE tb c W X z b) (hs : notSet z = true) : SC tb c W X (.Compare y [coO o] [z] pos) (.cmp o a b) :=
  (pt_cmpR (cmp_ok (by have := x.hu; omega) o) ha hb (nomark' hs)).to fun σ H Q ⟨g, ρ, r, q⟩ => by
    rw [evC_eq (by intro z; cases z)] at q
    have q : Go X.mg W σ H (((evE c a ρ).bind fun x => (evE c b ρ).bind fun y => (cmpT o x y).bind fun r => .ok (.bl r)).bind tru) fun t => ∀ H', Same H H' → Q t H' := q
    exact ⟨g, ρ, r, (Go.bind (Go.bind q)).imp fun tx _ q1 H1 v s1 z1 => ⟨g, ρ, r.mono s1, ((Go.bind q1).mono s1).imp fun ty _ q2 H2 w s2 z2 => by
      obtain ⟨t, e, q3⟩ := (Go.bind q2).ok (qt_cmpT o tx ty)
      exact ⟨g.Av (escI a ++ escI b), tx, ty, t, (z1.ri.mono s2).less (Gh.av_less mem_l), z2.ri.less (Gh.av_less mem_r), e, t, rfl, q3 H2 (s1.trans s2)⟩⟩⟩
theorem c_chain (x : XOk tb c k N W X sc osc) {o o' : CmpO} {a b d : Ex} {y z u : Expr} {pos : Pos} (ha : SE tb c W X y a) (hb : SE tb c W X z b) (hd : SE tb c W X u d) (hs : notSet u = true) :
    SC tb c W X (.Compare y [coO o, coO o'] [z, u] pos) (.chain o o' a b d) :=
  (pt_chain (cmp_ok (by have := x.hu; omega) o) (cmp_ok (by have := x.hu; omega) o') ha hb hd (nomark' hs)).to fun σ H Q ⟨g, ρ, r, q⟩ => by
    rw [evC_eq (by intro z; cases z)] at q
    exact ⟨g, ρ, r, (Go.bind (Go.bind q)).imp fun tx _ q1 H1 v s1 z1 => ⟨g, ρ, r.mono s1, ((Go.bind q1).mono s1).imp fun ty _ q2 H2 w s2 z2 => by
    obtain ⟨t, e, q3⟩ := (Go.bind q2).ok (qt_cmpT o tx ty)
    refine ⟨g.Av (escI a ++ escI b), tx, ty, t, (z1.ri.mono s2).less (Gh.av_less mem_l), z2.ri.less (Gh.av_less mem_r), e, t, rfl, ?_⟩
    cases t with
    | false => exact iteF ⟨false, rfl, q3 H2 (s1.trans s2)⟩
    | true =>
      refine iteT ⟨g, ρ, r.mono (s1.trans s2), ((Go.bind q3).mono (s1.trans s2)).imp fun tz _ q4 H3 w' s3 z3 => ?_⟩
      obtain ⟨t', e', q5⟩ := (Go.bind q4).ok (qt_cmpT o' ty tz)
      exact ⟨g.Av (escI b ++ escI d), ty, tz, t', (z2.ri.mono s3).less (Gh.av_less mem_l), z3.ri.less (Gh.av_less mem_r), e', t', rfl, q5 H3 ((s1.trans s2).trans s3)⟩⟩⟩
theorem c_not {a : Ex} {x : Expr} {pos : Pos} (hn : a ≠ .nil) (ha : SC tb c W X x a) : SC tb c W X (.UnaryOp .Not x pos) (.not a) :=
  (pt_not ha).to fun σ H Q ⟨g, ρ, r, q⟩ => by
    rw [evC_eq (by intro z; cases z)] at q
    have q1 : Go X.mg W σ H (evC c a ρ) fun t => ∀ H', Same H H' → Q (!t) H' := by
      rw [evC_eq hn]
      have q : Go X.mg W σ H (((evE c a ρ).bind fun x => (tru x).bind fun t => .ok (.bl (!t))).bind tru) fun t => ∀ H', Same H H' → Q t H' := q
      cases e : evE c a ρ with
      | ok t =>
        rw [e] at q
        cases e2 : tru t with
        | ok b =>
          rw [show (R.ok t).bind (fun x => (tru x).bind fun t => R.ok (Tr.bl (!t))) = (tru t).bind fun t => R.ok (Tr.bl (!t)) from rfl, e2] at q
          show Go X.mg W σ H (tru t) _
          rw [e2]
          exact q
        | ex u => exact absurd e2 (qt_tru t u)
        | no =>
          rw [show (R.ok t).bind (fun x => (tru x).bind fun t => R.ok (Tr.bl (!t))) = (tru t).bind fun t => R.ok (Tr.bl (!t)) from rfl, e2] at q
          exact q.elim
      | ex u => rw [e] at q; exact q
      | no => rw [e] at q; exact q
    exact ⟨g, ρ, r, q1⟩
theorem evC_and {a b : Ex} (ha : a ≠ .nil) (hb : b ≠ .nil) (ρ : Env) : evC c (.and a b) ρ = (evC c a ρ).bind fun t => if t then evC c b ρ else .ok false := by
  rw [evC_eq (by intro z; cases z), evC_eq ha, evC_eq hb]
  show ((evE c a ρ).bind fun x => (tru x).bind fun t => if t then evE c b ρ else .ok x).bind tru = _
  cases e : evE c a ρ with
  | ok t =>
    show ((tru t).bind fun t' => if t' then evE c b ρ else .ok t).bind tru = (tru t).bind _
    cases e2 : tru t with
    | ok v =>
      cases v with
      | true => rfl
      | false => exact e2
    | ex u => rfl
    | no => rfl
  | ex u => rfl
  | no => rfl
theorem evC_or {a b : Ex} (ha : a ≠ .nil) (hb : b ≠ .nil) (ρ : Env) : evC c (.or a b) ρ = (evC c a ρ).bind fun t => if t then .ok true else evC c b ρ := by
  rw [evC_eq (by intro z; cases z), evC_eq ha, evC_eq hb]
  show ((evE c a ρ).bind fun x => (tru x).bind fun t => if t then .ok x else evE c b ρ).bind tru = _
  cases e : evE c a ρ with
  | ok t =>
    show ((tru t).bind fun t' => if t' then .ok t else evE c b ρ).bind tru = (tru t).bind _
    cases e2 : tru t with
    | ok v =>
      cases v with
      | false => rfl
      | true => exact e2
    | ex u => rfl
    | no => rfl
  | ex u => rfl
  | no => rfl
abbrev SW (c : Ctx) (W : WX) (X : Cx) (x : Expr) (e : Ex) : Prop := PW X x (rdC X.mg X.K c W e)
theorem _root_.L2.PW.to {X : Cx} {e : Expr} {t t' : TT} (h : PW X e t) (i : ∀ σ H Q, t' σ H Q → t σ H Q) : PW X e t' := ⟨fun wh pins s σ H Q I q => h.run wh pins s σ H Q I (i σ H Q q)⟩
theorem w_and {a b : Ex} {x y : Expr} {r : List Expr} {pos : Pos} (na : a ≠ .nil) (nb : b ≠ .nil) (ha : SC tb c W X x a) (hb : SW c W X (.BoolOp .And (y :: r) pos) b) : SW c W X (.BoolOp .And (x :: y :: r) pos) (.and a b) :=
  PW.to (pw_and ha hb) fun σ H Q ⟨g, ρ, r, q⟩ => by
    rw [evC_and na nb] at q
    refine ⟨g, ρ, r, (Go.bind q).imp fun t _ q1 H1 s1 => ?_⟩
    cases t with
    | true => exact iteT ⟨g, ρ, r.mono s1, (q1.mono s1).imp fun t' _ q2 H2 s2 => q2 H2 (s1.trans s2)⟩
    | false => exact iteF (q1 H1 s1)
theorem w_or {a b : Ex} {x y : Expr} {r : List Expr} {pos : Pos} (na : a ≠ .nil) (nb : b ≠ .nil) (ha : SC tb c W X x a) (hb : SW c W X (.BoolOp .Or (y :: r) pos) b) : SW c W X (.BoolOp .Or (x :: y :: r) pos) (.or a b) :=
  PW.to (pw_or ha hb) fun σ H Q ⟨g, ρ, r, q⟩ => by
    rw [evC_or na nb] at q
    refine ⟨g, ρ, r, (Go.bind q).imp fun t _ q1 H1 s1 => ?_⟩
    cases t with
    | false => exact iteF ⟨g, ρ, r.mono s1, (q1.mono s1).imp fun t' _ q2 H2 s2 => q2 H2 (s1.trans s2)⟩
    | true => exact iteT (q1 H1 s1)

/-! ### argument lists, displays, subscripts, slices -/
theorem a_nil : SA tb c W X [] .nil := pa_nil.to fun σ H Q ⟨g, ρ, r, q⟩ => q H [] (Same.refl H) .nil .nil
theorem a_cons {e : Ex} {es : Exs} {x : Expr} {xs : List Expr} (hs : notStar x = true) (he : SE tb c W X x e) (hes : SA tb c W X xs es) : SA tb c W X (x :: xs) (.cons e es) :=
  (pa_cons he hes (star_cons hs)).to fun σ H Q ⟨g, ρ, r, q⟩ => ⟨g, ρ, r, (Go.bind q).imp fun tx _ q1 H1 v s1 z1 => ⟨g, ρ, r.mono s1, ((Go.bind q1).mono s1).imp fun ts _ q2 H2 vs s2 z2 z3 =>
    q2 H2 (v :: vs) (s1.trans s2) (.cons ((z1.rp.mono s2).less (Gh.av_less mem_l)) (z2.less (Gh.av_less mem_r))) (.cons ((z1.ri.mono s2).less (Gh.av_less mem_l)) (z3.less (Gh.av_less mem_r)))⟩⟩
theorem s_tup {es : Exs} {xs : List Expr} {j : Nat} {pos : Pos} (h : SA tb c W X xs es) : SE tb c W X (.Tuple xs j pos) (.tup es) :=
  (pe_tup h).to fun σ H Q ⟨g, ρ, r, q⟩ => ⟨g, ρ, r, (Go.bind q).imp fun ts _ q1 H1 vs s1 z1 _ => by
    obtain ⟨t, e, q2⟩ := q1.ok qt_if
    obtain ⟨hz, e2⟩ := rif e
    subst e2
    exact ⟨by rw [z1.length, ← SZ_eq]; exact hz, fun p hp => q2 _ _ (s1.trans (same_new hp)) (Rz.of rfl (.tup (.inl (.inl upd_same)) (z1.mono (same_new hp))) fun _ => nofr fun _ z => nomatch z)⟩⟩
theorem s_lst {es : Exs} {xs : List Expr} {pos : Pos} (h : SA tb c W X xs es) : SE tb c W X (.List xs pos) (.lst es) :=
  (pe_lst h).to fun σ H Q ⟨g, ρ, r, q⟩ => ⟨g, ρ, r, (Go.bind q).imp fun ts _ q1 H1 vs s1 z1 _ => by
    have q1 : Go X.mg W σ H (if ts.length ≤ SZ then R.ok (Tr.lst ts) else .no) _ := q1
    obtain ⟨t, e, q2⟩ := q1.ok qt_if
    obtain ⟨hz, e2⟩ := rif e
    subst e2
    refine ⟨by rw [z1.length, ← SZ_eq]; exact hz, fun p hp => ?_⟩
    obtain ⟨h1, h2, h3⟩ := fr_new s1 ((r.mono s1).av _) hp z1
    exact q2 _ _ (s1.trans h3) (Rz.of rfl h1 fun _ => h2)⟩
theorem plainIx {y : Expr} (h : notSlice y = true) : PlainIx y := fun o i => by
  cases y <;> first | rfl | cases h
theorem s_idx {a i : Ex} {x y : Expr} {pos : Pos} (hs : notSlice y = true) (ha : SE tb c W X x a) (hi : SE tb c W X y i) : SE tb c W X (.Subscript x y pos) (.idx a i) :=
  (pe_ix idx_ok ha hi (plainIx hs)).to fun σ H Q ⟨g, ρ, r, q⟩ => ⟨g, ρ, r, (Go.bind q).imp fun tx _ q1 H1 v s1 z1 => ⟨g, ρ, r.mono s1, ((Go.bind q1).mono s1).imp fun ty _ q2 H2 w s2 z2 => by
    obtain ⟨t, e, q3⟩ := q2.ok (qt_idxT tx ty)
    have hint : Ri X.K H2 (g.Av (esc (.idx a i))) w ty := by
      have h2 := z2.ri
      cases ty with
      | int n => cases h2; exact .int _
      | _ => cases tx <;> cases e
    exact ⟨g.Av (esc (.idx a i)), tx, ty, t, z1.ri.mono s2, hint, e, fun u rp => q3 H2 u (s1.trans s2) (Rz.of rfl rp fun z => nomatch (show false = true from z))⟩⟩⟩
theorem few_ind {x : Expr} (hs : notStar x = true) {env : PySem.Env} {pos : Pos} : ((backTo pos (starEach [x] env)).all (fun y => !y.1) && (backToKw pos (keywordEach [] env)).all (fun y => y.1.isSome) && decide ([x].length + ([] : List Keyword).length + (if ([] : List Keyword).isEmpty then 0 else 1) < 30)) = true := by
  rw [star_cons hs]
  rfl
theorem qt_indL (ts : List Tr) (y : Tr) : Qt (indL ts y) := fun x h => by
  unfold indL at h
  split at h
  · cases hf : ts.findIdx? fun z => eqv z y with
    | none => rw [hf] at h; cases h
    | some j => rw [hf] at h; cases h
  · cases h
theorem s_ind (x : XOk tb c k N W X sc osc) {i : Nat} {b : Ex} {n : Str} {z : Expr} {p ap pos : Pos} (hv : varB N sc i n = true) (hs : notStar z = true) (hb : SE tb c W X z b) (hline : (ap.endLine == pos.line) = true) : SE tb c W X (.Call (.Attribute (.Name n p) "index" ap) [z] [] pos) (.ind i b) :=
  (pe_bm PySem.F.plainAttrs_list PySem.F.slot_list_index PySem.F.type_list_index (mt_indexD (by have := x.hu; omega)) (s_var x hv) (pa_cons hb pa_nil (star_cons hs)) rfl (few_ind hs) hline (star_cons hs) rfl).to fun σ H Q ⟨g, ρ, r, q⟩ => ⟨g, ρ, r, (Go.bind q).imp fun tx _ q1 H1 v s1 z1 => by
    cases tx with
    | lst ts =>
      have hri := z1.ri
      obtain ⟨a, vs, rfl, hq, rr⟩ := lst_of hri
      have q1 : Go X.mg W σ H ((evE c b ρ).bind fun y => indL ts y) fun t => ∀ H' w, Same H H' → Rz X.K tb g (.ind i b) H H' w t → Q w H' := q1
      refine ⟨.inl ⟨rfl, _, SqL.of hq⟩, g, ρ, r.mono s1, ((Go.bind q1).mono s1).imp fun ty _ q2 H2 w s2 z2 => ?_⟩
      obtain ⟨t, e, q3⟩ := q2.ok (qt_indL ts ty)
      unfold indL at e
      have hc : (sh ty && sh (.lst ts)) = true := by
        refine Classical.byContradiction fun hc => ?_
        rw [if_neg hc] at e
        cases e
      rw [if_pos hc] at e
      rw [Bool.and_eq_true] at hc
      cases hf : ts.findIdx? fun z => eqv z ty with
      | none => rw [hf] at e; cases e
      | some j =>
        rw [hf] at e
        cases e
        obtain ⟨hj, hj1, hj2⟩ := List.findIdx?_eq_some_iff_getElem.mp hf
        have hsl : shBs 59 ts = true := hc.2
        have hm : ∀ m (h : m < ts.length), shB 59 ts[m] = true := fun m h => shBs_all.mp hsl _ (List.getElem_mem h)
        have hget : ∀ m (h : m < ts.length), (toPys ts)[m]? = some (toPy ts[m]) := fun m h => by rw [toPys_map, List.getElem?_map, List.getElem?_eq_getElem h]; rfl
        have hd : Dp X.K H2 (.ref a) (.list (toPys ts)) := by
          have := (hri.mono s2).dp hc.2
          rw [toPy] at this
          exact this
        refine ⟨a, w, toPy ty, toPys ts, j, toPy ts[j], rfl, rfl, hd, z2.ri.dp hc.1, ?_, shaped_sh hc.1, hget j hj, ?_, fun m u hm1 hm2 => ?_, q3 H2 _ (s1.trans s2) (Rz.of rfl (.int _) fun _ => nofr fun _ z => nomatch z)⟩
        · have := shaped_sh hc.2
          rw [toPy] at this
          exact this
        · rw [eqv_py _ _ (hm j hj) (show shB 60 ty = true from hc.1)]
          exact hj1
        · have hml : m < ts.length := by omega
          rw [hget m hml] at hm2
          cases hm2
          rw [eqv_py _ _ (hm m hml) (show shB 60 ty = true from hc.1)]
          have := hj2 m hm1
          simpa using this
    | _ => exact q1.elim⟩
abbrev SO (c : Ctx) (W : WX) (X : Cx) (x : Option Expr) (e : Ex) : Prop := PO X x (rdO X.mg X.K c W e)
theorem _root_.L2.PO.to {X : Cx} {e : Option Expr} {t t' : TO} (h : PO X e t) (i : ∀ σ H Q, t' σ H Q → t σ H Q) : PO X e t' := ⟨fun pins s σ H Q I q => h.run pins s σ H Q I (i σ H Q q)⟩
theorem o_none : SO c W X none .nil := PO.to po_none fun σ H Q ⟨g, ρ, r, q⟩ => (show Go X.mg W σ H (R.ok none) (fun o => ∀ H', Same H H' → Q o H') from q) H (Same.refl H)
theorem evO_eq {d : Ex} (h : d ≠ .nil) (ρ : Env) : evO c d ρ = (evE c d ρ).bind intO := by
  cases d <;> first | rfl | exact absurd rfl h
theorem o_some {a : Ex} {x : Expr} (hn : a ≠ .nil) (ha : SE tb c W X x a) : SO c W X (some x) a := PO.to (po_some ha) fun σ H Q ⟨g, ρ, r, q⟩ => by
  rw [evO_eq hn] at q
  exact ⟨g, ρ, r, (Go.bind q).imp fun tx _ q1 H1 v s1 z1 => by
    have h2 := z1.ri
    cases h2 with
    | int i => exact ⟨i, rfl, q1 H1 s1⟩
    | _ => exact q1.elim⟩
theorem s_slc {a lo hi : Ex} {x : Expr} {l h : Option Expr} {p2 pos : Pos} (ha : SE tb c W X x a) (hl : SO c W X l lo) (hh : SO c W X h hi) : SE tb c W X (.Subscript x (.Slice l h none p2) pos) (.slc a lo hi) :=
  (pe_slice slc_ok ha hl hh).to fun σ H Q ⟨g, ρ, r, q⟩ => ⟨g, ρ, r, (Go.bind q).imp fun tx _ q1 H1 v s1 z1 => ⟨g, ρ, r.mono s1, ((Go.bind q1).mono s1).imp fun ol _ q2 H2 s2 => ⟨g, ρ, r.mono (s1.trans s2), ((Go.bind q2).mono (s1.trans s2)).imp fun oh _ q3 H3 s3 => by
    obtain ⟨t, e, q4⟩ := q3.ok (qt_slcT tx ol oh)
    exact ⟨g.Av (esc (.slc a lo hi)), tx, t, (z1.ri.mono s2).mono s3, (r.mono ((s1.trans s2).trans s3)).av _, e, fun H4 u s4 rp fr => q4 H4 u (((s1.trans s2).trans s3).trans s4) (Rz.of rfl rp fun _ => fr.before ((s1.trans s2).trans s3))⟩⟩⟩⟩
theorem qt_slkT (k : Nat) (t : Tr) (l h : Option Int) : Qt (slkT k t l h) := fun y e => by
  unfold slkT at e
  split at e <;> cases e
theorem s_slk {k : Nat} {a lo hi : Ex} {x : Expr} {l h : Option Expr} {j : Nat} {p1 p2 pos : Pos} (hk : 1 ≤ k) (ha : SE tb c W X x a) (hl : SO c W X l lo) (hh : SO c W X h hi) : SE tb c W X (.Subscript x (.Slice l h (some (.Constant (.int (k : Int)) j p1)) p2) pos) (.slk k a lo hi) :=
  (pe_slk hk ha hl hh).to fun σ H Q ⟨g, ρ, r, q⟩ => ⟨g, ρ, r, (Go.bind q).imp fun tx _ q1 H1 v s1 z1 => ⟨g, ρ, r.mono s1, ((Go.bind q1).mono s1).imp fun ol _ q2 H2 s2 => ⟨g, ρ, r.mono (s1.trans s2), ((Go.bind q2).mono (s1.trans s2)).imp fun oh _ q3 H3 s3 => by
    obtain ⟨t, e, q4⟩ := q3.ok (qt_slkT k tx ol oh)
    cases tx with
    | lst ts =>
      cases e
      obtain ⟨p, vs, rfl, hq, rr⟩ := lst_of ((z1.ri.mono s2).mono s3)
      refine ⟨p, vs, rfl, SqL.of hq, fun m hm => ?_⟩
      rw [cut_eq]
      obtain ⟨h1, h2, h3⟩ := fr_new (Same.refl H3) ((r.mono ((s1.trans s2).trans s3)).av _) hm (Rps.stepL k (rr.cut ol oh))
      exact q4 _ _ (((s1.trans s2).trans s3).trans h3) (Rz.of rfl h1 fun _ => h2.before ((s1.trans s2).trans s3))
    | _ => cases e⟩⟩⟩
theorem s_rev {a : Ex} {x : Expr} {j : Nat} {p1 p2 p3 pos : Pos} (ha : SE tb c W X x a) : SE tb c W X (.Subscript x (.Slice none none (some (.UnaryOp .USub (.Constant (.int 1) j p1) p2)) p3) pos) (.rev a) :=
  (pe_rev2 ha).to fun σ H Q ⟨g, ρ, r, q⟩ => ⟨g, ρ, r, (Go.bind q).imp fun tx _ q1 H1 v s1 z1 => by
    cases tx with
    | tup ts =>
      obtain ⟨p, vs, rfl, hq, rr⟩ := tup_of z1.ri
      refine .inr ⟨p, vs, rfl, hq, fun l hl => ?_⟩
      exact q1 _ _ (s1.trans (same_new hl)) (Rz.of rfl (.tup (.inl (.inl upd_same)) (rr.reverse.mono (same_new hl))) fun _ => nofr fun _ z => nomatch z)
    | lst ts =>
      obtain ⟨p, vs, rfl, hq, rr⟩ := lst_of z1.ri
      refine .inl ⟨p, vs, rfl, SqL.of hq, fun l hl => ?_⟩
      obtain ⟨h1, h2, h3⟩ := fr_new s1 ((r.mono s1).av _) hl rr.reverse
      exact q1 _ _ (s1.trans h3) (Rz.of rfl h1 fun _ => h2)
    | _ => exact q1.elim⟩
end
end Jr

/-! Calls, what is walked, patterns. -/
namespace Jr
open PySem PySem.Spec PyProof.Rows L2

theorem Go.wish {α : Type} {mg : Str → Option Value} {W W' : WX} {σ σ' : L2.St} {H : Hp} {r : R α} {k : α → Prop} (h : Go mg W σ H r k) (i : ∀ C H', W (.ref C) none σ H' → W' (.ref C) none σ' H') : Go mg W' σ' H r k := by
  cases r with
  | ok a => exact h
  | ex x => exact fun C e H' s => i C H' (h C e H' s)
  | no => exact h

section
variable {tb : Tb} {c : Ctx} {k : Nat} {N : List Str} {W : WX} {X : Cx} {sc osc : Scope}
theorem s_call (x : XOk tb c k N W X sc osc) {f : Nat} {d : Fn} {es : Exs} {y : Expr} {ys : List Expr} {p pos : Pos} (hd : tb.fns[f]? = some d) (hg : glB sc d.name = true) (hl : ∀ ts, ts.length ≠ d.np → c.cal f ts = .no)
    (hes : SA tb c W X (y :: ys) es) (hst : ∀ z ∈ y :: ys, notStar z = true) : SE tb c W X (.Call (.Name d.name p) (y :: ys) [] pos) (.call f es) := by
  obtain ⟨fa, fd, hm, hk, hb, F⟩ := x.cal f d hd
  obtain ⟨hg', hdb⟩ := x.glob hg
  refine (pe_callG (E := WE W) F x.room x.grd hg' hm hk hb (fun σ => passAt x.tk σ) hes hdb (star_cons (hst y List.mem_cons_self)) (star_any fun z hz => hst z (List.mem_cons_of_mem _ hz))).to fun σ H Q ⟨g, ρ, r, q⟩ => ?_
  refine ⟨g, ρ, r, (Go.bind q).imp fun ts _ q1 H1 vs s1 z1 _ => ?_⟩
  have hlen : ts.length = d.np := by
    by_cases e : ts.length = d.np
    · exact e
    · rw [hl ts e] at q1
      exact q1.elim
  refine ⟨z1.length.trans hlen, g.Av (escs es), ts, (r.mono s1).av _, z1, ((q1.mono s1).wish fun C H' w => w).imp fun t _ q2 H' w s2 rp fr _ => ?_⟩
  refine q2 H' w (s1.trans s2) (Rz.of rfl rp fun hf => (fr ?_).before s1)
  have hf' : (tb.fns[f]?.map (·.fr)).getD false = true := hf
  rw [hd] at hf'
  exact hf'
theorem s_cald (x : XOk tb c k N W X sc osc) {f : Nat} {d : Fn} {es : Exs} {y : Expr} {ys : List Expr} {p pos : Pos} (hd : tb.fns[f]? = some d) (hdf : d.dfr = true) (hg : glB sc d.name = true) (hl : ∀ ts, ts.length ≠ d.np → c.cal f ts = .no)
    (hes : SA tb c W X (y :: ys) es) (hst : ∀ z ∈ y :: ys, notStar z = true) : SE tb c W X (.Call (.Name d.name p) (y :: ys) [] pos) (.cald f es) := by
  obtain ⟨fa, fd, hm, hk, hb, F⟩ := x.cal f d hd
  obtain ⟨hg', hdb⟩ := x.glob hg
  refine (pe_callG (E := WE W) F x.room x.grd hg' hm hk hb (fun σ => passAt x.tk σ) hes hdb (star_cons (hst y List.mem_cons_self)) (star_any fun z hz => hst z (List.mem_cons_of_mem _ hz))).to fun σ H Q ⟨g, ρ, r, q⟩ => ?_
  refine ⟨g, ρ, r, (Go.bind q).imp fun ts _ q1 H1 vs s1 z1 _ => ?_⟩
  have hlen : ts.length = d.np := by
    by_cases e : ts.length = d.np
    · exact e
    · rw [hl ts e] at q1
      exact q1.elim
  refine ⟨z1.length.trans hlen, g.Av (escs es), ts, (r.mono s1).av _, z1, ((q1.mono s1).wish fun C H' w => w).imp fun t _ q2 H' w s2 rp fr dfr => ?_⟩
  obtain ⟨d1, d2⟩ := dfr hdf
  refine q2 H' w (s1.trans s2) (Rz.of rfl (d1.less fun a z => (r.mono s1).av _ a z) fun hf => ((d2 ?_).less fun a z => (r.mono s1).av _ a z).before s1)
  have hf' : (tb.fns[f]?.map (·.fr)).getD false = true := hf
  rw [hd] at hf'
  exact hf'
theorem bi_go {b : Bi} {es : Exs} {σ : L2.St} {H : Hp} {Q : VK} (h : rdE X.mg X.K tb c W (.bi b es) σ H Q) : tCB (rBi X.K b) (rdA X.mg X.K c W es) σ H Q := by
  obtain ⟨g, ρ, r, q⟩ := h
  refine ⟨g, ρ, r, (Go.bind q).imp fun ts _ q1 H1 vs s1 _ z1 => ?_⟩
  obtain ⟨t, e, q2⟩ := q1.ok (qt_biT b ts)
  exact ⟨g.Av (escIs es), ts, t, z1, (r.mono s1).av _, e, fun H2 w s2 rp fr => q2 H2 w (s1.trans s2) (Rz.of rfl rp fun _ => fr.before s1)⟩
theorem biB_of (x : XOk tb c k N W X sc osc) {n y : Str} (h : biB tb sc n y = true) : y = n ∧ Gl X y ∧ (y == ("__debug__" : Str)) = false ∧ X.mg y = mgB y := by
  unfold biB at h
  simp only [Bool.and_eq_true, decide_eq_true_eq] at h
  obtain ⟨h1, h2⟩ := x.glob h.1.2
  exact ⟨h.1.1, h1, h2, x.bi _ h.2⟩
theorem s_bi (x : XOk tb c k N W X sc osc) {b : Bi} {es : Exs} {n : Str} {y : Expr} {ys : List Expr} {p pos : Pos} (hb : biB tb sc (biN b) n = true) (hn : notIsi b = true)
    (hes : SA tb c W X (y :: ys) es) (hst : ∀ z ∈ y :: ys, notStar z = true) : SE tb c W X (.Call (.Name n p) (y :: ys) [] pos) (.bi b es) := by
  obtain ⟨rfl, hg, hdb, hm⟩ := biB_of x hb
  have h1 := star_cons (xs := ys) (env := X.env) (hst y List.mem_cons_self)
  have h2 := star_any (env := X.env) (pos := pos) fun z hz => hst z (List.mem_cons_of_mem _ hz)
  have hu := x.hu
  cases b with
  | len => exact (pe_callB bi_len hg (hm.trans rfl) (by decide +kernel) hes (by decide) hdb h1 h2).to fun σ H Q => bi_go
  | int => exact (pe_callTy bi_int hg (hm.trans rfl) (by decide +kernel) hes (by decide) hdb h1 h2).to fun σ H Q => bi_go
  | abs => exact (pe_callB bi_abs hg (hm.trans rfl) (by decide +kernel) hes (by decide) hdb h1 h2).to fun σ H Q => bi_go
  | max2 => exact (pe_callB (bi_max2 x.calm) hg (hm.trans rfl) (by decide +kernel) hes (by decide) hdb h1 h2).to fun σ H Q => bi_go
  | min2 => exact (pe_callB (bi_min2 x.calm) hg (hm.trans rfl) (by decide +kernel) hes (by decide) hdb h1 h2).to fun σ H Q => bi_go
  | maxl => exact (pe_callB (bi_maxl x.calm (by omega)) hg (hm.trans rfl) (by decide +kernel) hes (by decide) hdb h1 h2).to fun σ H Q => bi_go
  | minl => exact (pe_callB (bi_minl x.calm (by omega)) hg (hm.trans rfl) (by decide +kernel) hes (by decide) hdb h1 h2).to fun σ H Q => bi_go
  | sum => exact (pe_callB (bi_sum x.calm) hg (hm.trans rfl) (by decide +kernel) hes (by decide) hdb h1 h2).to fun σ H Q => bi_go
  | all => exact (pe_callB (bi_all x.calm) hg (hm.trans rfl) (by decide +kernel) hes (by decide) hdb h1 h2).to fun σ H Q => bi_go
  | any => exact (pe_callB (bi_any x.calm) hg (hm.trans rfl) (by decide +kernel) hes (by decide) hdb h1 h2).to fun σ H Q => bi_go
  | list => exact (pe_callTy bi_list hg (hm.trans rfl) (by decide +kernel) hes (by decide) hdb h1 h2).to fun σ H Q => bi_go
  | tuple => exact (pe_callTy bi_tuple hg (hm.trans rfl) (by decide +kernel) hes (by decide) hdb h1 h2).to fun σ H Q => bi_go
  | sorted => exact (pe_callB (bi_sorted (by omega)) hg (hm.trans rfl) (by decide +kernel) hes (by decide) hdb h1 h2).to fun σ H Q => bi_go
  | divmod => exact (pe_callB bi_divmod hg (hm.trans rfl) (by decide +kernel) hes (by decide) hdb h1 h2).to fun σ H Q => bi_go
  | repr => exact (pe_callB (bi_repr x.grd (by omega)) hg (hm.trans rfl) (by decide +kernel) hes (by decide) hdb h1 h2).to fun σ H Q => bi_go
  | gcd => exact (pe_callBfun bi_gcd hg (hm.trans rfl) hes hdb h1 h2).to fun σ H Q => bi_go
  | lcm => exact (pe_callBfun bi_lcm hg (hm.trans rfl) hes hdb h1 h2).to fun σ H Q => bi_go
  | isi t => cases hn
theorem ty_boot (t : Ty) : bootBuiltins (Str.ofString (tyN t)) = some (.type (tyN t)) := by
  cases t <;> decide +kernel
theorem ty_name (t : Ty) : Str.ofString (tyN t) ≠ "__name__" ∧ (Str.ofString (tyN t) == ("__debug__" : Str)) = false := by
  cases t <;> decide +kernel
theorem ty_mgB (t : Ty) : mgB (Str.ofString (tyN t)) = none := by
  cases t <;> rfl
theorem s_isi (x : XOk tb c k N W X sc osc) {t : Ty} {a : Ex} {n z : Str} {y : Expr} {p p2 pos : Pos} (hb : biB tb sc (biN (.isi t)) n = true) (hz : biB tb sc (Str.ofString (tyN t)) z = true) (hs : notStar y = true)
    (ha : SE tb c W X y a) : SE tb c W X (.Call (.Name n p) [y, .Name z p2] [] pos) (.isi t a) := by
  obtain ⟨rfl, hg, hdb, hm⟩ := biB_of x hb
  obtain ⟨rfl, hg2, hdb2, hm2⟩ := biB_of x hz
  have hty : PE X (.Name (Str.ofString (tyN t)) p2) (tC (.ty (tyN t))) := pe_bltn hg2 (hm2.trans (ty_mgB t)) (ty_boot t) rfl (ty_name t).1 (ty_name t).2
  refine (pe_callB call_isi hg (hm.trans rfl) (show bootBuiltins ("isinstance" : Str) = some (.builtin "isinstance") by decide +kernel) (pa_cons ha (pa_cons hty pa_nil) (star_cons hs)) (show ("isinstance" : Str) ≠ "__name__" by decide) hdb (star_cons hs)).to fun σ H Q ⟨g, ρ, r, q⟩ => ?_
  refine ⟨g, ρ, r, (Go.bind q).imp fun tx _ q1 H1 v s1 z1 => ?_⟩
  obtain ⟨u, e, q2⟩ := q1.ok (qt_biT (.isi t) [tx])
  obtain ⟨b, e1, e2⟩ := bind_ok (show ((ofO (isiT t tx)).bind fun b => R.ok (Tr.bl b)) = .ok u from e)
  cases e2
  obtain ⟨m, h1, h2⟩ := isi_ty (X := X) (ofO_ok e1) z1.ri
  exact ⟨v, .ty (tyN t), .type m, .type (tyN t), b, rfl, .ty _, h1, kit_ty h2, q2 H1 _ s1 (Rz.of rfl (.bl _) fun _ => nofr fun _ z => nomatch z)⟩

/-! ### patterns -/
/-- slots and tree slots changed together, at the places l alone -/
structure Upd (K : PySem.W.Frag) (H : Hp) (Av : Addr → Prop) (l : List Nat) (σ : L2.St) (ρ : Env) (σ' : L2.St) (ρ' : Env) : Prop where
  ls : σ'.length = σ.length
  lr : ρ'.length = ρ.length
  at_ : ∀ i : Nat, ((i ∉ l ∨ ρ.length ≤ i) ∧ σ'[i]? = σ[i]? ∧ ρ'[i]? = ρ[i]?) ∨ (i ∈ l ∧ ∃ v t, σ'[i]? = some (some v) ∧ ρ'[i]? = some (some t) ∧ Rp K H Av v t)
theorem Upd.refl {K : PySem.W.Frag} {H : Hp} {Av : Addr → Prop} {σ : L2.St} {ρ : Env} : Upd K H Av [] σ ρ σ ρ := ⟨rfl, rfl, fun _ => .inl ⟨.inl (fun z => nomatch z), rfl, rfl⟩⟩
theorem Upd.trans {K : PySem.W.Frag} {H : Hp} {Av : Addr → Prop} {l l' : List Nat} {σ σ1 σ2 : L2.St} {ρ ρ1 ρ2 : Env} (a : Upd K H Av l σ ρ σ1 ρ1) (b : Upd K H Av l' σ1 ρ1 σ2 ρ2) : Upd K H Av (l ++ l') σ ρ σ2 ρ2 := by
  refine ⟨b.ls.trans a.ls, b.lr.trans a.lr, fun i => ?_⟩
  rcases b.at_ i with ⟨h0, h1, h2⟩ | ⟨h1, h2⟩
  · rcases a.at_ i with ⟨h5, h3, h4⟩ | ⟨h3, v, t, h4, h5, h6⟩
    · refine .inl ⟨?_, h1.trans h3, h2.trans h4⟩
      rcases h5 with h5 | h5
      · rcases h0 with h0 | h0
        · exact .inl fun z => (List.mem_append.mp z).elim h5 h0
        · exact .inr (by rw [← a.lr]; exact h0)
      · exact .inr h5
    · exact .inr ⟨List.mem_append_left _ h3, v, t, h1.trans h4, h2.trans h5, h6⟩
  · exact .inr ⟨List.mem_append_right _ h1, h2⟩
theorem upd_one {K : PySem.W.Frag} {H : Hp} {Av : Addr → Prop} {σ : L2.St} {ρ : Env} {i : Nat} {v : V} {t : Tr} (hl : ρ.length = σ.length) (r : Rp K H Av v t) : Upd K H Av [i] σ ρ (σ.set i (some v)) (ρ.set i (some t)) := by
  refine ⟨by rw [List.length_set], by rw [List.length_set], fun j => ?_⟩
  by_cases h : j = i
  · subst h
    by_cases hj : j < σ.length
    · refine .inr ⟨List.mem_singleton.mpr rfl, v, t, ?_, ?_, r⟩
      · rw [List.getElem?_set_self hj]
      · rw [List.getElem?_set_self (by omega)]
    · refine .inl ⟨.inr (by omega), ?_, ?_⟩
      · rw [List.getElem?_eq_none (by rw [List.length_set]; omega), List.getElem?_eq_none (by omega)]
      · rw [List.getElem?_eq_none (by rw [List.length_set]; omega), List.getElem?_eq_none (by omega)]
  · exact .inl ⟨.inl fun z => h (List.mem_singleton.mp z), by rw [List.getElem?_set_ne (Ne.symm h)], by rw [List.getElem?_set_ne (Ne.symm h)]⟩
def rdP (K : PySem.W.Frag) (p : Pat) : TG := fun v σ H Q => ∃ t Av ρ ρ', ρ.length = σ.length ∧ Rp K H Av v t ∧ bindP p t ρ = .ok ρ' ∧ ∀ σ', Upd K H Av p.slots σ ρ σ' ρ' → Q σ' H
def rdPs (K : PySem.W.Frag) (ps : List Pat) : TGs := fun vs σ H Q => ∃ ts Av ρ ρ', ρ.length = σ.length ∧ Rps K H Av vs ts ∧ bindPs ps ts ρ = .ok ρ' ∧ ∀ σ', Upd K H Av (slotsL ps) σ ρ σ' ρ' → Q σ' H
theorem _root_.L2.PG.to {X : Cx} {e : Expr} {t t' : TG} (h : PG X e t) (i : ∀ v σ H Q, t' v σ H Q → t v σ H Q) : PG X e t' := ⟨fun pins s σ H v u Q I r q => h.run pins s σ H v u Q I r (i v σ H Q q)⟩
theorem _root_.L2.PGs.to {X : Cx} {e : List Expr} {t t' : TGs} (h : PGs X e t) (i : ∀ v σ H Q, t' v σ H Q → t v σ H Q) : PGs X e t' := ⟨fun pins s σ H v u Q I r q => h.run pins s σ H v u Q I r (i v σ H Q q)⟩
theorem pg_or {X : Cx} {e : Expr} {t t' : TG} (h : PG X e t) (h' : PG X e t') : PG X e (fun v σ H Q => t v σ H Q ∨ t' v σ H Q) := ⟨fun pins s σ H v u Q I r q => q.elim (h.run pins s σ H v u Q I r) (h'.run pins s σ H v u Q I r)⟩
theorem assign_cons {e : Expr} {es : List Expr} {env : PySem.Env} (h : notStar e = true) : assignEach (e :: es) env = (false, assign e env) :: assignEach es env := by
  cases e <;> first | rfl | cases h
theorem mPs_star {osc : Scope} : ∀ {ps : List Pat} {es : List Expr}, mPs N osc ps es = true → (∀ e ∈ es, notStar e = true) ∧ es.length = ps.length
  | [], [], _ => ⟨(fun _ h => nomatch h), rfl⟩
  | [], _ :: _, h => by cases h
  | _ :: _, [], h => by cases h
  | p :: ps, e :: es, h => by
    have h' : (notStar e && mP N osc p e && mPs N osc ps es) = true := h
    simp only [Bool.and_eq_true] at h'
    obtain ⟨h1, h2⟩ := mPs_star h'.2
    exact ⟨fun z hz => (List.mem_cons.mp hz).elim (fun q => by rw [q]; exact h'.1.1) (h1 z), by rw [List.length_cons, List.length_cons, h2]⟩
theorem assign_len {env : PySem.Env} : ∀ {es : List Expr}, (∀ e ∈ es, notStar e = true) → (assignEach es env).length = es.length ∧ (assignEach es env).findIdx? (·.1) = none
  | [], _ => ⟨rfl, rfl⟩
  | e :: es, h => by
    rw [assign_cons (h e List.mem_cons_self)]
    obtain ⟨h1, h2⟩ := assign_len (env := env) fun z hz => h z (List.mem_cons_of_mem _ hz)
    refine ⟨by rw [List.length_cons, List.length_cons, h1], ?_⟩
    rw [List.findIdx?_cons, h2]
    rfl
mutual
theorem p_ok (x : XOk tb c k N W X sc osc) : ∀ {p : Pat} {e : Expr}, mP N osc p e = true → PG X e (rdP X.K p)
  | .var i, e, h => by
    unfold mP at h
    split at h
    · rename_i n pos
      simp only [Bool.and_eq_true, decide_eq_true_eq] at h
      obtain ⟨hl, hf⟩ := x.loc n h.2
      refine (pg_name (i := i) (by rw [x.hN]; exact x.nd) (by rw [x.hN]; exact h.1) (by rw [x.hsc]; exact hl) (by rw [x.hsc]; exact hf)).to fun v σ H Q ⟨t, Av, ρ, ρ', hlen, rp, e, q⟩ => ?_
      have e : R.ok (ρ.set i (some t)) = R.ok ρ' := e
      cases e
      exact q _ (upd_one hlen rp)
    · cases h
  | .tup ps, e, h => by
    unfold mP at h
    split at h
    · rename_i es j pos
      obtain ⟨h1, h2⟩ := mPs_star h
      obtain ⟨a1, a2⟩ := assign_len (env := X.env) h1
      have hb : ∀ {ps : List Pat} {ts : List Tr} {ρ ρ' : Env}, bindPs ps ts ρ = .ok ρ' → ts.length = ps.length := fun {ps} => by
        induction ps with
        | nil =>
          intro ts ρ ρ' e
          cases ts with
          | nil => rfl
          | cons t ts => cases e
        | cons p ps ih =>
          intro ts ρ ρ' e
          cases ts with
          | nil => cases e
          | cons t ts =>
            obtain ⟨ρ1, _, e2⟩ := bind_ok (show ((bindP p t ρ).bind fun ρ' => bindPs ps ts ρ') = .ok ρ' from e)
            rw [List.length_cons, List.length_cons, ih e2]
      refine (pg_or (pg_tup x.calm (ps_ok x h) a1 a2) (pg_unl x.calm (ps_ok x h) a1 a2)).to fun v σ H Q ⟨t, Av, ρ, ρ', hlen, rp, e, q⟩ => ?_
      cases t with
      | tup ts =>
        cases rp with
        | tup hq rr =>
          have e : bindPs ps ts ρ = .ok ρ' := e
          refine .inl ⟨_, _, rfl, hq, ?_, ts, Av, ρ, ρ', hlen, rr, e, q⟩
          rw [rr.length, hb e, h2]
      | lst ts =>
        cases rp with
        | lst hq _ rr =>
          have e : bindPs ps ts ρ = .ok ρ' := e
          refine .inr ⟨_, _, rfl, SqL.of hq, ?_, ts, Av, ρ, ρ', hlen, rr, e, q⟩
          rw [rr.length, hb e, h2]
      | _ => cases e
    · cases h
theorem ps_ok (x : XOk tb c k N W X sc osc) : ∀ {ps : List Pat} {es : List Expr}, mPs N osc ps es = true → PGs X es (rdPs X.K ps)
  | [], es, h => by
    cases es with
    | cons e es => cases h
    | nil =>
      refine pgs_nil.to fun vs σ H Q ⟨ts, Av, ρ, ρ', hlen, rr, e, q⟩ => ?_
      cases ts with
      | cons t ts => cases e
      | nil =>
        cases rr
        cases e
        exact ⟨rfl, q σ .refl⟩
  | p :: ps, [], h => by cases h
  | p :: ps, e :: es, h => by
    have h' : (notStar e && mP N osc p e && mPs N osc ps es) = true := h
    simp only [Bool.and_eq_true] at h'
    refine (pgs_cons (p_ok x h'.1.2) (ps_ok x h'.2) (by rw [assign_cons h'.1.1]; rfl)).to fun vs σ H Q ⟨ts, Av, ρ, ρ', hlen, rr, e, q⟩ => ?_
    cases ts with
    | nil => cases e
    | cons t ts =>
      cases rr with
      | cons r1 r2 =>
        obtain ⟨ρ1, e1, e2⟩ := bind_ok (show ((bindP p t ρ).bind fun ρ' => bindPs ps ts ρ') = .ok ρ' from e)
        refine ⟨_, _, rfl, t, Av, ρ, ρ1, hlen, r1, e1, fun σ1 u1 => ⟨ts, Av, ρ1, ρ', by rw [u1.lr, u1.ls]; exact hlen, r2, e2, fun σ2 u2 => q σ2 (u1.trans u2)⟩⟩
end

/-! ### what is walked -/
/-- J walks the items xs, at the heap H1 -/
structure Wk (K : PySem.W.Frag) (g : Gh) (it : It) (H1 : Hp) (J : L2.It) (xs : List Tr) : Prop where
  ex : ∃ (G : Hp → Prop) (Y : Nat → Hp → V → Hp → Prop) (S : (Addr → Prop) → Hp → Prop), Walk J xs.length G Y ∧ (∀ H2, Keeps (g.Av (escL it)) H1 H2 → G H2) ∧ S (g.Av (escT it)) H1 ∧
    (∀ Av H H2, S Av H → Keeps Av H H2 → S Av H2) ∧ (∀ (Av Av' : Addr → Prop) H, (∀ a, Av' a → Av a) → S Av H → S Av' H) ∧
    (∀ (Av : Addr → Prop) H, S Av H → S (fun a => Av a ∨ H a = none) H) ∧
    ∀ i H2 x H3 Av, i < xs.length → S Av H2 → Y i H2 x H3 → Same H2 H3 ∧ ∃ t, xs[i]? = some t ∧ Rp K H3 Av x t
def rdI (mg : Str → Option Value) (K : PySem.W.Frag) (c : Ctx) (W : WX) (it : It) : TI := fun σ H Q => ∃ g ρ, Rel K g σ ρ H ∧ Go mg W σ H (evI c it ρ) fun xs => ∀ H1 J, Same H H1 → Wk K g it H1 J xs → Q J H1
abbrev SI (tb : Tb) (c : Ctx) (W : WX) (X : Cx) (tg x : Expr) (it : It) : Prop := PI X tg x (rdI X.mg X.K c W it)
theorem _root_.L2.PI.to {X : Cx} {tg e : Expr} {t t' : TI} (h : PI X tg e t) (i : ∀ σ H Q, t' σ H Q → t σ H Q) : PI X tg e t' := ⟨fun pins s σ H R I q => h.run pins s σ H R I (i σ H R q)⟩
/-- a list or a tuple -/
def iSeq (K : PySem.W.Frag) (tl : TE) : TI := fun σ H R => tl σ H fun x H1 => ∃ a, x = .ref a ∧ (((∃ xs, SqL K H1 a xs) ∧ R (Itl K a) H1) ∨ ((∃ xs, SqT K H1 a xs) ∧ R (Itt K a) H1))
theorem pi_seq {tg l : Expr} {tl : TE} (hl : PE X l tl) : PI X tg l (iSeq X.K tl) := by
  refine ⟨fun pins s σ H R I h => ?_⟩
  refine thn (hl.run pins s σ H _ I h) fun v s1 ⟨x, H1, I1, r1, q1⟩ => ?_
  obtain ⟨a, e, ⟨⟨xs, hq⟩, q⟩ | ⟨⟨xs, hq⟩, q⟩⟩ := q1
  · subst e
    cases r1
    obtain ⟨its, rv, p, hz⟩ := I1.list hq
    refine wpAny_pyIter_list p.isList ?_
    refine ⟨s1.heap.objs.size, [s1.heap.objs.size], _, _, H1, rfl, I1.kept (t' := s1.toks) fun b o e => Heap.get?_push_of_some _ e, turn_list a _, ⟨_, Heap.get?_push_size _ rfl, rfl, rfl⟩, fun b hb => ?_, q⟩
    have e : b = s1.heap.objs.size := by simpa using hb
    subst e
    exact I1.fpOk (Nat.le_refl _) (I1.hok.fresh (Nat.le_refl _))
  · subst e
    cases r1
    obtain ⟨its, rv, p, hz⟩ := I1.tuple hq
    refine wpAny_pyIter_tuple (show s1.heap.IsTuple a its.toArray from p) ?_
    refine ⟨s1.heap.objs.size, [s1.heap.objs.size], _, _, H1, rfl, I1.kept (t' := s1.toks) fun b o e => Heap.get?_push_of_some _ e, turn_tuple a _, ⟨_, Heap.get?_push_size _ rfl, rfl, rfl⟩, fun b hb => ?_, q⟩
    have e : b = s1.heap.objs.size := by simpa using hb
    subst e
    exact I1.fpOk (Nat.le_refl _) (I1.hok.fresh (Nat.le_refl _))
theorem qt_itemsT (t : Tr) : Qt (itemsT t) := fun x h => by
  cases t <;> cases h
theorem rps_at {K : PySem.W.Frag} {H : Hp} {Av : Addr → Prop} {vs : List V} {ts : List Tr} (h : Rps K H Av vs ts) {i : Nat} {v : V} (e : vs[i]? = some v) : ∃ t, ts[i]? = some t ∧ Rp K H Av v t := h.get' e
theorem i_of {a : Ex} {tg x : Expr} (ha : SE tb c W X x a) : SI tb c W X tg x (.of a) :=
  (pi_seq ha).to fun σ H R ⟨g, ρ, r, q⟩ => ⟨g, ρ, r, (Go.bind q).imp fun tx _ q1 H1 v s1 z1 => by
    obtain ⟨ts, e, q2⟩ := q1.ok (qt_itemsT tx)
    cases tx with
    | lst us =>
      cases e
      obtain ⟨p, vs, rfl, hq, rr⟩ := lst_of z1.ri
      refine ⟨p, rfl, .inl ⟨⟨vs, SqL.of hq⟩, q2 H1 _ s1 ⟨fun H2 => SqL X.K H2 p vs, YAt vs, fun Av H2 => Rps X.K H2 Av vs ts, ?_, fun H2 kp => ?_, rr, fun Av H H2 h kp => h.keep kp, fun Av Av' H k h => h.less k, fun Av H h => h.freshAll, fun i H2 y H3 Av hi h hy => ?_⟩⟩⟩
      · rw [← rr.length]
        exact walk_list
      · have h1 := z1.rp
        cases h1 with
        | lst hq' hn _ =>
          rw [hq] at hq'
          cases hq'
          exact SqL.of (kp _ _ hq fun _ => hn)
      · obtain ⟨rfl, hv⟩ := hy
        obtain ⟨t, h1, h2⟩ := h.get' hv
        exact ⟨Same.refl _, t, h1, h2⟩
    | tup us =>
      cases e
      obtain ⟨p, vs, rfl, hq, rr⟩ := tup_of z1.ri
      refine ⟨p, rfl, .inr ⟨⟨vs, hq⟩, q2 H1 _ s1 ⟨fun H2 => SqT X.K H2 p vs, YAt vs, fun Av H2 => Rps X.K H2 Av vs ts, ?_, fun H2 kp => kp.tup hq, rr, fun Av H H2 h kp => h.keep kp, fun Av Av' H k h => h.less k, fun Av H h => h.freshAll, fun i H2 y H3 Av hi h hy => ?_⟩⟩⟩
      · rw [← rr.length]
        exact walk_tup
      · obtain ⟨rfl, hv⟩ := hy
        obtain ⟨t, h1, h2⟩ := h.get' hv
        exact ⟨Same.refl _, t, h1, h2⟩
    | _ => cases e⟩
theorem rng_wk {K : PySem.W.Frag} {g : Gh} {it : It} {H1 : Hp} {lo hi : Int} {n : Nat} (hn : n = (hi - lo).toNat) : Wk K g it H1 (Itr lo n) (rngL lo hi) := by
  subst hn
  refine ⟨fun _ => True, YFn fun i => .int (lo + i), fun _ _ => True, ?_, fun _ _ => trivial, trivial, fun _ _ _ _ _ => trivial, fun _ _ _ _ _ => trivial, fun _ _ _ => trivial, fun i H2 y H3 Av hl h hy => ?_⟩
  · have e : (rngL lo hi).length = (hi - lo).toNat := by unfold rngL; rw [List.length_map, List.length_range]
    rw [e]
    exact walk_range
  · obtain ⟨rfl, rfl⟩ := hy
    refine ⟨Same.refl _, .int (lo + i), ?_, .int _⟩
    have e : i < (hi - lo).toNat := by
      unfold rngL at hl
      rw [List.length_map, List.length_range] at hl
      exact hl
    unfold rngL
    rw [List.getElem?_map, List.getElem?_range e]
    rfl
theorem qt_rngT1 (t : Tr) : Qt (rngT1 t) := by
  cases t <;> first | exact qt_if | exact qt_no
theorem qt_rngT2 (t u : Tr) : Qt (rngT2 t u) := by
  cases t <;> cases u <;> first | exact qt_if | exact qt_no
theorem i_rng1 (x : XOk tb c k N W X sc osc) {a : Ex} {tg y : Expr} {n : Str} {p pos : Pos} (hb : biB tb sc "range" n = true) (hs : notStar y = true) (ha : SE tb c W X y a) : SI tb c W X tg (.Call (.Name n p) [y] [] pos) (.rng1 a) := by
  obtain ⟨rfl, hg, hdb, hm⟩ := biB_of x hb
  exact (pi_range1 hg hm (pa_cons ha pa_nil (star_cons hs)) (star_cons hs)).to fun σ H R ⟨g, ρ, r, q⟩ => ⟨g, ρ, r, (Go.bind q).imp fun tx _ q1 H1 v s1 z1 => by
    obtain ⟨ts, e, q2⟩ := q1.ok (qt_rngT1 tx)
    cases tx with
    | int i =>
      obtain ⟨h1, h2⟩ := rif e
      subst h2
      have h3 := z1.ri
      cases h3
      obtain ⟨⟨h4, h5⟩, _⟩ := small63 h1
      refine ⟨i, rfl, h4, h5, q2 H1 _ s1 ?_⟩
      exact rng_wk (by omega)
    | _ => cases e⟩
theorem i_rng2 (x : XOk tb c k N W X sc osc) {a b : Ex} {tg y z : Expr} {n : Str} {p pos : Pos} (hb : biB tb sc "range" n = true) (hs : notStar y = true) (hs2 : notStar z = true) (ha : SE tb c W X y a) (hb' : SE tb c W X z b) :
    SI tb c W X tg (.Call (.Name n p) [y, z] [] pos) (.rng2 a b) := by
  obtain ⟨rfl, hg, hdb, hm⟩ := biB_of x hb
  exact (pi_range2 hg hm (pa_cons ha (pa_cons hb' pa_nil (star_cons hs2)) (star_cons hs)) (by rw [star_cons hs, star_cons hs2]; rfl) (star_cons hs2)).to fun σ H R ⟨g, ρ, r, q⟩ => ⟨g, ρ, r, (Go.bind q).imp fun tx _ q1 H1 v s1 z1 =>
    ⟨g, ρ, r.mono s1, ((Go.bind q1).mono s1).imp fun ty _ q2 H2 w s2 z2 => by
    obtain ⟨ts, e, q3⟩ := q2.ok (qt_rngT2 tx ty)
    cases tx with
    | int i =>
      cases ty with
      | int j =>
        obtain ⟨h1, h2⟩ := rif e
        subst h2
        rw [Bool.and_eq_true] at h1
        have h3 := z1.ri
        cases h3
        have h3 := z2.ri
        cases h3
        obtain ⟨⟨h4, h5⟩, _⟩ := small63 h1.1
        obtain ⟨⟨h6, h7⟩, _⟩ := small63 h1.2
        exact ⟨i, j, rfl, ⟨h4, h5, h6, h7⟩, q3 H2 _ (s1.trans s2) (rng_wk rfl)⟩
      | _ => cases e
    | _ => cases e⟩⟩
theorem i_enum (x : XOk tb c k N W X sc osc) {a : Ex} {y : Expr} {elts : List Expr} {kk : Nat} {tpos : Pos} {n : Str} {p pos : Pos} (hb : biB tb sc "enumerate" n = true) (hs : notStar y = true) (ha : SE tb c W X y a) :
    SI tb c W X (.Tuple elts kk tpos) (.Call (.Name n p) [y] [] pos) (.enum a) := by
  obtain ⟨rfl, hg, hdb, hm⟩ := biB_of x hb
  exact (pi_enum hg hm (pa_cons ha pa_nil (star_cons hs)) (star_cons hs)).to fun σ H R ⟨g, ρ, r, q⟩ => ⟨g, ρ, r, (Go.bind q).imp fun tx _ q1 H1 v s1 z1 => by
    cases tx with
    | lst us =>
      obtain ⟨p, vs, rfl, hq, rr⟩ := lst_of z1.ri
      have hlen : (enumL us).length = us.length := by unfold enumL; rw [List.length_map, List.length_zipIdx]
      refine ⟨p, vs, rfl, SqL.of hq, q1 H1 _ s1 ⟨fun H2 => SqL X.K H2 p vs, YPair (fun i => some (.int (i : Nat))) (fun i => vs[i]?), fun Av H2 => Rps X.K H2 Av vs us, ?_, fun H2 kp => ?_, rr, fun Av H H2 h kp => h.keep kp, fun Av Av' H k h => h.less k, fun Av H h => h.freshAll, fun i H2 y H3 Av hi h hy => ?_⟩⟩
      · rw [hlen, ← rr.length]
        exact walk_enum
      · have h1 := z1.rp
        cases h1 with
        | lst hq' hn _ =>
          rw [hq] at hq'
          cases hq'
          exact SqL.of (kp _ _ hq fun _ => hn)
      · obtain ⟨T, x1, x2, rfl, hT, rfl, f1, f2⟩ := hy
        cases f1
        obtain ⟨t, h1, h2⟩ := h.get' f2
        refine ⟨same_new hT, .tup [.int (i : Nat), t], ?_, .tup (.inl (.inl upd_same)) (.cons (.int _) (.cons (h2.mono (same_new hT)) .nil))⟩
        unfold enumL
        rw [List.getElem?_map, List.getElem?_zipIdx, h1]
        simp
    | _ => exact q1.elim⟩
theorem walk_zipT {K : PySem.W.Frag} {a b : Addr} {xs ys : List V} {n : Nat} (hn : n = min xs.length ys.length) : Walk (RZ.ItzT K a b) n (fun H => SqT K H a xs ∧ SqT K H b ys) (YPair (fun i => xs[i]?) (fun i => ys[i]?)) where
  goes := fun i H hi q => by
    have h1 : i < xs.length := by omega
    have h2 : i < ys.length := by omega
    exact ⟨xs, ys, _, _, q.1, q.2, List.getElem?_eq_getElem h1, List.getElem?_eq_getElem h2⟩
  stops := fun H q => ⟨xs, ys, q.1, q.2, by omega⟩
  yields := fun i H v H' hi q ⟨T, x, z, e1, e2, e3, e4, e5⟩ => ⟨T, x, z, e1, e2, e3, e4 xs q.1, e5 ys q.2⟩
theorem i_zip (x : XOk tb c k N W X sc osc) {a b : Ex} {y z : Expr} {elts : List Expr} {kk : Nat} {tpos : Pos} {n : Str} {p pos : Pos} (hb : biB tb sc "zip" n = true) (hs : notStar y = true) (hs2 : notStar z = true) (ha : SE tb c W X y a) (hb' : SE tb c W X z b) :
    SI tb c W X (.Tuple elts kk tpos) (.Call (.Name n p) [y, z] [] pos) (.zip a b) := by
  obtain ⟨rfl, hg, hdb, hm⟩ := biB_of x hb
  exact (RZ.pi_zipA hg hm (pa_cons ha (pa_cons hb' pa_nil (star_cons hs2)) (star_cons hs)) (star_cons hs) (star_any fun w hw => by rw [List.mem_singleton.mp hw]; exact hs2)).to fun σ H R ⟨g, ρ, r, q⟩ => ⟨g, ρ, r, (Go.bind q).imp fun tx _ q1 H1 v s1 z1 =>
    ⟨g, ρ, r.mono s1, ((Go.bind q1).mono s1).imp fun ty _ q2 H2 w s2 z2 => by
    cases tx with
    | lst us =>
      cases ty with
      | lst ws =>
        obtain ⟨p, vs, rfl, hq, rr⟩ := lst_of (z1.ri.mono s2)
        obtain ⟨p', vs', rfl, hq', rr'⟩ := lst_of z2.ri
        have hlen : (zipL us ws).length = min us.length ws.length := by unfold zipL; rw [List.length_map, List.length_zip]
        refine ⟨p, p', vs, vs', rfl, .inl ⟨SqL.of hq, SqL.of hq', q2 H2 _ (s1.trans s2) ⟨fun H3 => SqL X.K H3 p vs ∧ SqL X.K H3 p' vs', YPair (fun i => vs[i]?) (fun i => vs'[i]?), fun Av H3 => Rps X.K H3 Av vs us ∧ Rps X.K H3 Av vs' ws, ?_, fun H3 kp => ?_,
          ⟨rr.less (Gh.av_less mem_l), rr'.less (Gh.av_less mem_r)⟩, fun Av H H3 h kp => ⟨h.1.keep kp, h.2.keep kp⟩, fun Av Av' H k h => ⟨h.1.less k, h.2.less k⟩, fun Av H h => ⟨h.1.freshAll, h.2.freshAll⟩, fun i H3 y H4 Av hi h hy => ?_⟩⟩⟩
        · exact walk_zip (by rw [hlen, rr.length, rr'.length])
        · have h1 := z1.rp.mono s2
          have h2 := z2.rp
          cases h1 with
          | lst g1 n1 _ =>
            cases h2 with
            | lst g2 n2 _ =>
              rw [hq] at g1
              cases g1
              rw [hq'] at g2
              cases g2
              exact ⟨SqL.of (kp _ _ hq fun _ z => n1 (Gh.av_less mem_l _ z)), SqL.of (kp _ _ hq' fun _ z => n2 (Gh.av_less mem_r _ z))⟩
        · obtain ⟨T, x1, x2, rfl, hT, rfl, f1, f2⟩ := hy
          obtain ⟨t, h1, h2⟩ := h.1.get' f1
          obtain ⟨t', h1', h2'⟩ := h.2.get' f2
          refine ⟨same_new hT, .tup [t, t'], ?_, .tup (.inl (.inl upd_same)) (.cons (h2.mono (same_new hT)) (.cons (h2'.mono (same_new hT)) .nil))⟩
          unfold zipL
          rw [List.getElem?_map, show (us.zip ws)[i]? = some (t, t') from List.getElem?_zip_eq_some.mpr ⟨h1, h1'⟩]
          rfl
      | _ => exact q2.elim
    | tup us =>
      cases ty with
      | tup ws =>
        obtain ⟨p, vs, rfl, hq, rr⟩ := tup_of (z1.ri.mono s2)
        obtain ⟨p', vs', rfl, hq', rr'⟩ := tup_of z2.ri
        have hlen : (zipL us ws).length = min us.length ws.length := by unfold zipL; rw [List.length_map, List.length_zip]
        refine ⟨p, p', vs, vs', rfl, .inr ⟨hq, hq', q2 H2 _ (s1.trans s2) ⟨fun H3 => SqT X.K H3 p vs ∧ SqT X.K H3 p' vs', YPair (fun i => vs[i]?) (fun i => vs'[i]?), fun Av H3 => Rps X.K H3 Av vs us ∧ Rps X.K H3 Av vs' ws, ?_, fun H3 kp => ⟨kp.tup hq, kp.tup hq'⟩,
          ⟨rr.less (Gh.av_less mem_l), rr'.less (Gh.av_less mem_r)⟩, fun Av H H3 h kp => ⟨h.1.keep kp, h.2.keep kp⟩, fun Av Av' H k h => ⟨h.1.less k, h.2.less k⟩, fun Av H h => ⟨h.1.freshAll, h.2.freshAll⟩, fun i H3 y H4 Av hi h hy => ?_⟩⟩⟩
        · exact walk_zipT (by rw [hlen, rr.length, rr'.length])
        · obtain ⟨T, x1, x2, rfl, hT, rfl, f1, f2⟩ := hy
          obtain ⟨t, h1, h2⟩ := h.1.get' f1
          obtain ⟨t', h1', h2'⟩ := h.2.get' f2
          refine ⟨same_new hT, .tup [t, t'], ?_, .tup (.inl (.inl upd_same)) (.cons (h2.mono (same_new hT)) (.cons (h2'.mono (same_new hT)) .nil))⟩
          unfold zipL
          rw [List.getElem?_map, show (us.zip ws)[i]? = some (t, t') from List.getElem?_zip_eq_some.mpr ⟨h1, h1'⟩]
          rfl
      | _ => exact q2.elim
    | _ => exact q2.elim⟩⟩
theorem rgV_rps {K : PySem.W.Frag} {H : Hp} {Av : Addr → Prop} {a b : Int} : Rps K H Av (rgV a b) (rngL a b) := by
  unfold rgV rngL
  generalize (b - a).toNat = n
  suffices ∀ l : List Nat, Rps K H Av (l.map fun i => V.int (a + (i : Nat))) (l.map fun i => Tr.int (a + (i : Nat))) from this _
  intro l
  induction l with
  | nil => exact .nil
  | cons x l ih => exact .cons (.int _) ih
theorem rg_ok {a b : Int} (h1 : smallOk a = true) (h2 : smallOk b = true) (hz : (rngL a b).length ≤ SZ) : RgOk a b := by
  have h3 := small63 h1
  have h4 := small63 h2
  unfold smallOk at h1 h2
  simp only [Bool.and_eq_true, decide_eq_true_eq] at h1 h2
  refine ⟨h1.1, h1.2, h2.1, h2.2, ?_⟩
  unfold rngL at hz
  rw [List.length_map, List.length_range] at hz
  exact hz
theorem s_lrg1 (x : XOk tb c k N W X sc osc) {a : Ex} {n m : Str} {z : Expr} {p p2 pos pos2 : Pos} (hb : biB tb sc "list" n = true) (hr : biB tb sc "range" m = true) (hs : notStar z = true) (ha : SE tb c W X z a) :
    SE tb c W X (.Call (.Name n p) [.Call (.Name m p2) [z] [] pos2] [] pos) (.lrg1 a) := by
  obtain ⟨rfl, hg, hdb, hm⟩ := biB_of x hb
  obtain ⟨rfl, hg2, hdb2, hm2⟩ := biB_of x hr
  exact (pe_listRg x.calm hg (hm.trans rfl) (prg_1 hg2 (hm2.trans rfl) ha (star_cons hs))).to fun σ H Q ⟨g, ρ, r, q⟩ => ⟨g, ρ, r, (Go.bind q).imp fun tx _ q1 H1 v s1 z1 => by
    obtain ⟨ts, e, q2⟩ := (Go.bind q1).ok (qt_rngT1 tx)
    obtain ⟨t, e1, q3⟩ := q2.ok qt_if
    cases tx with
    | int i =>
      obtain ⟨h1, h2⟩ := rif e
      subst h2
      have h3 := z1.ri
      cases h3
      have e1 : (if (rngL 0 i).length ≤ SZ then R.ok (Tr.lst (rngL 0 i)) else .no) = .ok t := e1
      obtain ⟨hz, e2⟩ := rif e1
      subst e2
      refine ⟨i, rfl, rg_ok rfl h1 hz, fun l hl => ?_⟩
      obtain ⟨g1, g2, g3⟩ := fr_new s1 ((r.mono s1).av _) hl rgV_rps
      exact q3 _ _ (s1.trans g3) (Rz.of rfl g1 fun _ => g2)
    | _ => cases e⟩
theorem s_lrg2 (x : XOk tb c k N W X sc osc) {a b : Ex} {n m : Str} {z w : Expr} {p p2 pos pos2 : Pos} (hb : biB tb sc "list" n = true) (hr : biB tb sc "range" m = true) (hs : notStar z = true) (hs2 : notStar w = true) (ha : SE tb c W X z a) (hb' : SE tb c W X w b) :
    SE tb c W X (.Call (.Name n p) [.Call (.Name m p2) [z, w] [] pos2] [] pos) (.lrg2 a b) := by
  obtain ⟨rfl, hg, hdb, hm⟩ := biB_of x hb
  obtain ⟨rfl, hg2, hdb2, hm2⟩ := biB_of x hr
  exact (pe_listRg x.calm hg (hm.trans rfl) (prg_2 hg2 (hm2.trans rfl) ha hb' (star_cons hs) (star_cons hs2) (star_any fun u hu => by rw [List.mem_singleton.mp hu]; exact hs2))).to fun σ H Q ⟨g, ρ, r, q⟩ => ⟨g, ρ, r, (Go.bind q).imp fun tx _ q1 H1 v s1 z1 =>
    ⟨g, ρ, r.mono s1, ((Go.bind q1).mono s1).imp fun ty _ q1' H2 v2 s2 z2 => by
    obtain ⟨ts, e, q2⟩ := (Go.bind q1').ok (qt_rngT2 tx ty)
    obtain ⟨t, e1, q3⟩ := q2.ok qt_if
    cases tx with
    | int i =>
      cases ty with
      | int j =>
        obtain ⟨h1, h2⟩ := rif e
        subst h2
        rw [Bool.and_eq_true] at h1
        have h3 := z1.ri
        cases h3
        have h3 := z2.ri
        cases h3
        have e1 : (if (rngL i j).length ≤ SZ then R.ok (Tr.lst (rngL i j)) else .no) = .ok t := e1
        obtain ⟨hz, e2⟩ := rif e1
        subst e2
        refine ⟨i, j, rfl, rfl, rg_ok h1.1 h1.2 hz, fun l hl => ?_⟩
        obtain ⟨g1, g2, g3⟩ := fr_new (s1.trans s2) ((r.mono (s1.trans s2)).av _) hl rgV_rps
        exact q3 _ _ ((s1.trans s2).trans g3) (Rz.of rfl g1 fun _ => g2)
      | _ => cases e
    | _ => cases e⟩⟩
end
end Jr

/-! Comprehensions; all expressions. -/
namespace Jr
open PySem PySem.Spec PyProof.Rows L2

/-! ### the state in a block -/
def Gh.hid (g : Gh) (D : Addr) : Gh := { g with O := fun a => g.O a ∨ a = D }
/-- the slots l give up their lists -/
def Gh.cut (g : Gh) (l : List Nat) : Gh := { g with A := fun i => if i ∈ l then none else g.A i, F := g.F.filter fun i => !decide (i ∈ l) || decide (2000 ≤ i) }
/-- the flags of vs go -/
def Gh.unc (g : Gh) (vs : List Nat) : Gh := { g with F := g.F.filter fun i => !decide (i ∈ vs.map cc) }
theorem cc_ge (j : Nat) : 2000 ≤ cc j := Nat.le_add_right _ _
theorem cc_inj {i j : Nat} (hi : i < 1000) (hj : j < 1000) (h : cc i = cc j) : i = j := by
  unfold cc at h
  omega
theorem cut_A {g : Gh} {l : List Nat} {i : Nat} {a : Addr} (h : (g.cut l).A i = some a) : g.A i = some a ∧ i ∉ l := by
  have h' : (if i ∈ l then none else g.A i) = some a := h
  split at h'
  · cases h'
  · exact ⟨h', by assumption⟩
theorem A_cut {g : Gh} {l : List Nat} {i : Nat} {a : Addr} (h : g.A i = some a) (n : i ∉ l) : (g.cut l).A i = some a := by
  show (if i ∈ l then none else g.A i) = some a
  rw [if_neg n]
  exact h
theorem cut_F {g : Gh} {l : List Nat} {i : Nat} : i ∈ (g.cut l).F ↔ i ∈ g.F ∧ (i ∉ l ∨ 2000 ≤ i) := by
  show i ∈ g.F.filter _ ↔ _
  rw [List.mem_filter]
  simp
theorem unc_F {g : Gh} {l : List Nat} {i : Nat} : i ∈ (g.unc l).F ↔ i ∈ g.F ∧ i ∉ l.map cc := by
  show i ∈ g.F.filter _ ↔ _
  rw [List.mem_filter]
  simp
theorem cut_cl {g : Gh} {l l' : List Nat} : (g.cut l).cl l' ↔ g.cl l' := ⟨fun h j hj => (cut_F.mp (h j hj)).1, fun h j hj => cut_F.mpr ⟨h j hj, .inr (cc_ge j)⟩⟩
theorem unc_cl {g : Gh} {l l' : List Nat} (h : (g.unc l).cl l') : g.cl l' ∧ ∀ j ∈ l', cc j ∉ l.map cc := ⟨fun j hj => (unc_F.mp (h j hj)).1, fun j hj => (unc_F.mp (h j hj)).2⟩
theorem cut_av {g : Gh} {l l' : List Nat} {a : Addr} : (g.cut l).Av l' a → g.Av l' a
  | .inl h => .inl h
  | .inr (.inl ⟨k, e, n⟩) => .inr (.inl ⟨k, (cut_A e).1, n⟩)
  | .inr (.inr ⟨o, q⟩) => .inr (.inr ⟨o, cut_cl.mp q⟩)
theorem unc_av {g : Gh} {l l' : List Nat} {a : Addr} : (g.unc l).Av l' a → g.Av l' a
  | .inl h => .inl h
  | .inr (.inl h) => .inr (.inl h)
  | .inr (.inr ⟨o, q⟩) => .inr (.inr ⟨o, (unc_cl q).1⟩)
theorem av_cut {g : Gh} {l l' : List Nat} {a : Addr} : g.Av (l' ++ l) a → (g.cut l).Av l' a
  | .inl h => .inl h
  | .inr (.inl ⟨k, e, n⟩) => .inr (.inl ⟨k, A_cut e fun z => n (List.mem_append_right _ z), fun z => n (List.mem_append_left _ z)⟩)
  | .inr (.inr ⟨o, q⟩) => .inr (.inr ⟨o, cut_cl.mpr fun j hj => q j (List.mem_append_left _ hj)⟩)
/-- the state in a walk's turn: what the items may lie in is given up, the flags of the walk's slots go if an old list may lie in the items -/
noncomputable def Gh.cutW (g : Gh) (lt vs : List Nat) : Gh := by
  classical
  exact if g.cl lt then g.cut (lt ++ vs) else (g.cut (lt ++ vs)).unc vs
theorem cutW_or (g : Gh) (lt vs : List Nat) : (g.cutW lt vs = g.cut (lt ++ vs) ∧ g.cl lt) ∨ (g.cutW lt vs = (g.cut (lt ++ vs)).unc vs ∧ ¬ g.cl lt) := by
  classical
  unfold Gh.cutW
  by_cases h : g.cl lt
  · exact .inl ⟨if_pos h, h⟩
  · exact .inr ⟨if_neg h, h⟩
theorem cutW_O {g : Gh} {lt vs : List Nat} : (g.cutW lt vs).O = g.O ∧ (g.cutW lt vs).H0 = g.H0 ∧ (g.cutW lt vs).Old = g.Old := by
  rcases cutW_or g lt vs with ⟨e, _⟩ | ⟨e, _⟩ <;> rw [e] <;> exact ⟨rfl, rfl, rfl⟩
theorem cutW_A {g : Gh} {lt vs : List Nat} {k : Nat} {a : Addr} (h : (g.cutW lt vs).A k = some a) : g.A k = some a ∧ k ∉ lt ++ vs := by
  rcases cutW_or g lt vs with ⟨e, _⟩ | ⟨e, _⟩ <;> rw [e] at h <;> exact cut_A h
theorem cutW_F {g : Gh} {lt vs : List Nat} {i : Nat} (h : i ∈ (g.cutW lt vs).F) : i ∈ g.F ∧ (i ∉ lt ++ vs ∨ 2000 ≤ i) := by
  rcases cutW_or g lt vs with ⟨e, _⟩ | ⟨e, _⟩
  · rw [e] at h
    exact cut_F.mp h
  · rw [e] at h
    exact cut_F.mp (unc_F.mp h).1
/-- a slot of the walk avoids what the items avoid -/
theorem cutW_slot {g : Gh} {lt vs : List Nat} {j : Nat} (hj : j ∈ vs) {a : Addr} (h : (g.cutW lt vs).Av [j + 1000] a) : g.Av lt a := by
  rcases h with z | ⟨k, ek, _⟩ | ⟨o, q⟩
  · rw [cutW_O.1] at z
    exact .inl z
  · obtain ⟨ek, hk⟩ := cutW_A ek
    exact .inr (.inl ⟨k, ek, fun z => hk (List.mem_append_left _ z)⟩)
  · rw [cutW_O.2.2] at o
    rcases cutW_or g lt vs with ⟨_, hc⟩ | ⟨e, _⟩
    · exact .inr (.inr ⟨o, hc⟩)
    · rw [e] at q
      have := (unc_cl q).2 (j + 1000) List.mem_cons_self
      rw [cc_item] at this
      exact absurd (List.mem_map_of_mem hj) this
/-- what is avoided in the turn's state -/
theorem av_cutW {g : Gh} {lt vs l' : List Nat} {a : Addr} (h : g.Av (l' ++ (lt ++ vs)) a) : (g.cutW lt vs).Av l' a := by
  rcases h with z | ⟨k, ek, n⟩ | ⟨o, q⟩
  · exact .inl (by rw [cutW_O.1]; exact z)
  · refine .inr (.inl ⟨k, ?_, fun z => n (List.mem_append_left _ z)⟩)
    have := A_cut ek fun z => n (List.mem_append_right _ z)
    rcases cutW_or g lt vs with ⟨e, _⟩ | ⟨e, _⟩ <;> rw [e] <;> exact this
  · rcases cutW_or g lt vs with ⟨e, _⟩ | ⟨_, hn⟩
    · refine .inr (.inr ⟨by rw [cutW_O.2.2]; exact o, ?_⟩)
      rw [e]
      exact cut_cl.mpr fun j hj => q j (List.mem_append_left _ hj)
    · exact absurd (fun j hj => q j (List.mem_append_right _ (List.mem_append_left _ hj))) hn
theorem hid_av {g : Gh} {D : Addr} {l : List Nat} {a : Addr} : (g.hid D).Av l a → g.Av l a ∨ a = D
  | .inl (.inl h) => .inl (.inl h)
  | .inl (.inr h) => .inr h
  | .inr h => .inl (.inr h)
theorem av_hid {g : Gh} {D : Addr} {l : List Nat} {a : Addr} : g.Av l a ∨ a = D → (g.hid D).Av l a
  | .inl (.inl h) => .inl (.inl h)
  | .inl (.inr h) => .inr h
  | .inr h => .inl (.inr h)
section
variable {K : PySem.W.Frag} {g : Gh} {σ σ' : L2.St} {ρ ρ' : Env} {H H' H1 : Hp}
theorem Ri.fresh {Av : Addr → Prop} {v : V} {t : Tr} {p : Addr} (hp : H p = none) (h : Ri K H Av v t) : Ri K H (fun a => Av a ∨ a = p) v t := by
  cases h with
  | non => exact .non
  | bl _ => exact .bl _
  | int _ => exact .int _
  | str _ => exact .str _
  | tup q r => exact .tup q (r.fresh hp)
  | lst q r => exact .lst q (r.fresh hp)
  | scr q => exact .scr q
theorem Rel.hid {D : Addr} (r : Rel K g σ ρ H1) (hD : H1 D = none) (s : Same H1 H) (hD' : H D ≠ none) : Rel K (g.hid D) σ ρ H where
  same := r.same.trans s
  oh := fun a z => z.elim ((r.mono s).oh a) fun e => by rw [e]; exact hD'
  old := (r.mono s).old
  len := r.len
  len2 := r.len2
  own2 := r.own2
  own := fun i a e => by
    obtain ⟨h1, h2, ⟨vs, h3⟩, h4⟩ := r.own i a e
    exact ⟨h1, h2, ⟨vs, s _ _ h3⟩, fun z => z.elim h4 fun e => by rw [e, hD] at h3; cases h3⟩
  inj := r.inj
  val := fun i t e => by
    obtain ⟨v, h1, h2, h3⟩ := r.val i t e
    exact ⟨v, h1, ((h2.fresh hD).less fun a => hid_av).mono s, h3.imp id fun z => ⟨((z.1.fresh hD).less fun a => hid_av).mono s, z.2⟩⟩
theorem Rel.cut (r : Rel K g σ ρ H) (l : List Nat) : Rel K (g.cut l) σ ρ H where
  same := r.same
  oh := r.oh
  old := r.old
  len := r.len
  len2 := r.len2
  own := fun i a e => by
    obtain ⟨e, hn⟩ := cut_A e
    obtain ⟨h1, h2, h3, h4⟩ := r.own i a e
    exact ⟨cut_F.mpr ⟨h1, .inl hn⟩, h2, h3, h4⟩
  own2 := fun i a e => r.own2 i a (cut_A e).1
  inj := fun i j a e e' => r.inj i j a (cut_A e).1 (cut_A e').1
  val := fun i t e => by
    obtain ⟨v, h1, h2, h3⟩ := r.val i t e
    have k : ∀ a, (g.cut l).Av [i + 1000] a → g.Av [i + 1000] a := fun a z => cut_av z
    have hi1 : i < 1000 := by
      have := (List.getElem?_eq_some_iff.mp e).1
      have := r.len2
      omega
    refine ⟨v, h1, h2.less k, ?_⟩
    rcases h3 with ⟨a, ts, e1, e2, e3⟩ | ⟨h4, h5⟩
    · by_cases hi : i ∈ l
      · refine .inr ⟨(h2.less k).rp fun a' ts' e4 _ z => ?_, fun z => absurd (cut_F.mp z).2 (fun q => q.elim (fun n => n hi) fun q => by omega)⟩
        subst e2
        cases e4
        rcases z with z | ⟨j, ej, _⟩ | ⟨z, _⟩
        · exact (r.own i _ e1).2.2.2 z
        · obtain ⟨ej, hj⟩ := cut_A ej
          exact hj (by rw [r.inj j i _ ej e1]; exact hi)
        · exact (r.own2 i _ e1).1 z
      · exact .inl ⟨a, ts, A_cut e1 hi, e2, e3⟩
    · exact .inr ⟨h4.less k, fun z => h5 (cut_F.mp z).1⟩
theorem Rel.unc (r : Rel K g σ ρ H) (l : List Nat) : Rel K (g.unc l) σ ρ H where
  same := r.same
  oh := r.oh
  old := r.old
  len := r.len
  len2 := r.len2
  own := fun i a e => by
    obtain ⟨h1, h2, h3, h4⟩ := r.own i a e
    refine ⟨unc_F.mpr ⟨h1, fun z => ?_⟩, h2, h3, h4⟩
    obtain ⟨j, _, ej⟩ := List.mem_map.mp z
    have := cc_ge j
    have := (r.own2 i a e).2
    omega
  own2 := r.own2
  inj := r.inj
  val := fun i t e => by
    obtain ⟨v, h1, h2, h3⟩ := r.val i t e
    exact ⟨v, h1, h2.less fun a z => unc_av z, h3.imp id fun z => ⟨z.1.less fun a z => unc_av z, fun q => z.2 (unc_F.mp q).1⟩⟩
theorem Rel.cutW (r : Rel K g σ ρ H) (lt vs : List Nat) : Rel K (g.cutW lt vs) σ ρ H := by
  rcases cutW_or g lt vs with ⟨e, _⟩ | ⟨e, _⟩
  · rw [e]
    exact r.cut _
  · rw [e]
    exact (r.cut _).unc _
theorem wipeE_length (ρ : Env) : ∀ vs : List Nat, (wipeE ρ vs).length = ρ.length
  | [] => rfl
  | v :: vs => by unfold wipeE; rw [List.length_set, wipeE_length ρ vs]
theorem wipeE_some {i : Nat} {x : Tr} : ∀ {vs : List Nat}, (wipeE ρ vs)[i]? = some (some x) → ρ[i]? = some (some x) ∧ i ∉ vs
  | [], h => ⟨h, by simp⟩
  | v :: vs, h => by
    unfold wipeE at h
    by_cases hi : v = i
    · subst hi
      by_cases hv : v < (wipeE ρ vs).length
      · rw [List.getElem?_set_self hv] at h; cases h
      · rw [List.getElem?_eq_none (by simpa using hv)] at h; cases h
    · rw [List.getElem?_set_ne hi] at h
      obtain ⟨h1, h2⟩ := wipeE_some h
      exact ⟨h1, by simp only [List.mem_cons, not_or]; exact ⟨fun e => hi e.symm, h2⟩⟩
theorem Rel.wipe (r : Rel K g σ ρ H) (vs : List Nat) : Rel K g (wipe σ vs) (wipeE ρ vs) H where
  same := r.same
  oh := r.oh
  old := r.old
  len := by rw [wipe_length, wipeE_length]; exact r.len
  len2 := by rw [wipeE_length]; exact r.len2
  own := r.own
  own2 := r.own2
  inj := r.inj
  val := fun i t e => by
    obtain ⟨e, hn⟩ := wipeE_some e
    obtain ⟨v, h1, h2⟩ := r.val i t e
    exact ⟨v, by rw [wipe_out hn]; exact h1, h2⟩
theorem Rel.upd {Av : Addr → Prop} {ls : List Nat} (r : Rel K g σ ρ H) (u : Upd K H Av ls σ ρ σ' ρ') (hF : ∀ i ∈ ls, i < 1000 → i ∉ g.F) (k : ∀ i ∈ ls, ∀ a, g.Av [i + 1000] a → Av a) : Rel K g σ' ρ' H where
  same := r.same
  oh := r.oh
  old := r.old
  len := by rw [u.lr, u.ls]; exact r.len
  len2 := by rw [u.lr]; exact r.len2
  own := r.own
  own2 := r.own2
  inj := r.inj
  val := fun i t e => by
    have hi1 : i < 1000 := by
      have := (List.getElem?_eq_some_iff.mp e).1
      have := r.len2
      have := u.lr
      omega
    rcases u.at_ i with ⟨_, h1, h2⟩ | ⟨hi, v, t', h1, h2, h3⟩
    · rw [h2] at e
      obtain ⟨v, h4, h5⟩ := r.val i t e
      exact ⟨v, by rw [h1]; exact h4, h5⟩
    · rw [h2] at e
      cases e
      exact ⟨v, h1, (h3.less (k i hi)).ri, .inr ⟨h3.less (k i hi), fun z => absurd z (hF i hi hi1)⟩⟩
/-- the flags of ls -/
def cF (ls : List Nat) : List Nat := (ls.filter (· < 1000)).map cc
def Gh.addc (g : Gh) (ls : List Nat) : Gh := { g with F := cF ls ++ g.F }
theorem mem_cF {ls : List Nat} {j : Nat} (h : j ∈ cF ls) : ∃ i ∈ ls, i < 1000 ∧ j = cc i := by
  obtain ⟨i, hi, e⟩ := List.mem_map.mp h
  rw [List.mem_filter] at hi
  exact ⟨i, hi.1, of_decide_eq_true hi.2, e.symm⟩
theorem addc_F {g : Gh} {ls : List Nat} {j : Nat} : j ∈ (g.addc ls).F ↔ j ∈ cF ls ∨ j ∈ g.F := List.mem_append
/-- slots are set, they are flagged -/
theorem Rel.updC {Av : Addr → Prop} {ls : List Nat} (r : Rel K g σ ρ H) (u : Upd K H Av ls σ ρ σ' ρ') (hF : ∀ i ∈ ls, i < 1000 → i ∉ g.F) (k : ∀ i ∈ ls, ∀ a, (g.addc ls).Av [i + 1000] a → Av a) : Rel K (g.addc ls) σ' ρ' H where
  same := r.same
  oh := r.oh
  old := r.old
  len := by rw [u.lr, u.ls]; exact r.len
  len2 := by rw [u.lr]; exact r.len2
  own := fun i a e => by
    obtain ⟨h1, h2⟩ := r.own i a e
    exact ⟨addc_F.mpr (.inr h1), h2⟩
  own2 := r.own2
  inj := r.inj
  val := fun i t e => by
    have hi0 := (List.getElem?_eq_some_iff.mp e).1
    have hi1 : i < 1000 := by
      have := r.len2
      have := u.lr
      omega
    have nc : ∀ j, i = cc j → False := fun j q => by have := cc_ge j; omega
    rcases u.at_ i with ⟨hn, h1, h2⟩ | ⟨hi, v, t', h1, h2, h3⟩
    · have hi : i ∉ ls := hn.elim id fun q => by
        have := u.lr
        omega
      rw [h2] at e
      obtain ⟨v, h4, h5, h6⟩ := r.val i t e
      have kk : ∀ a, (g.addc ls).Av [i + 1000] a → g.Av [i + 1000] a := fun a z => by
        rcases z with z | z | ⟨o, q⟩
        · exact .inl z
        · exact .inr (.inl z)
        · refine .inr (.inr ⟨o, fun j hj => ?_⟩)
          rcases addc_F.mp (q j hj) with z | z
          · obtain ⟨x, hx, hx1, ex⟩ := mem_cF z
            rw [List.mem_singleton.mp hj, cc_item] at ex
            exact absurd hx (by rw [← cc_inj hi1 hx1 ex]; exact hi)
          · exact z
      refine ⟨v, by rw [h1]; exact h4, h5.less kk, h6.imp id fun z => ⟨z.1.less kk, fun q => ?_⟩⟩
      rcases addc_F.mp q with q | q
      · obtain ⟨j, _, _, q⟩ := mem_cF q
        exact (nc j q).elim
      · exact z.2 q
    · rw [h2] at e
      cases e
      refine ⟨v, h1, (h3.less (k i hi)).ri, .inr ⟨h3.less (k i hi), fun z => ?_⟩⟩
      rcases addc_F.mp z with z | z
      · obtain ⟨j, _, _, q⟩ := mem_cF z
        exact (nc j q).elim
      · exact absurd z (hF i hi hi1)
/-- after stores of what lies in lt: the slots ls give up what they own; they are flagged if no old list lies in lt -/
noncomputable def Gh.stor (g : Gh) (lt ls : List Nat) : Gh := by
  classical
  exact if g.cl lt then (g.cut (lt ++ ls)).addc ls else (g.cut (lt ++ ls)).unc ls
theorem stor_or (g : Gh) (lt ls : List Nat) : (g.stor lt ls = (g.cut (lt ++ ls)).addc ls ∧ g.cl lt) ∨ (g.stor lt ls = (g.cut (lt ++ ls)).unc ls ∧ ¬ g.cl lt) := by
  classical
  unfold Gh.stor
  by_cases h : g.cl lt
  · exact .inl ⟨if_pos h, h⟩
  · exact .inr ⟨if_neg h, h⟩
theorem stor_O {lt ls : List Nat} : (g.stor lt ls).O = g.O ∧ (g.stor lt ls).H0 = g.H0 ∧ (g.stor lt ls).Old = g.Old := by
  rcases stor_or g lt ls with ⟨e, _⟩ | ⟨e, _⟩ <;> rw [e] <;> exact ⟨rfl, rfl, rfl⟩
theorem Rel.stor {lt ls : List Nat} (r : Rel K g σ ρ H) (u : Upd K H (g.Av lt) ls σ ρ σ' ρ') : Rel K (g.stor lt ls) σ' ρ' H := by
  have nF : ∀ i ∈ ls, i < 1000 → i ∉ (g.cut (lt ++ ls)).F := fun i hi h1 z => (cut_F.mp z).2.elim (fun n => n (List.mem_append_right _ hi)) fun q => by omega
  rcases stor_or g lt ls with ⟨e, hc⟩ | ⟨e, _⟩
  · rw [e]
    refine (r.cut _).updC u nF fun i hi a z => ?_
    rcases z with z | ⟨k, ek, _⟩ | ⟨o, _⟩
    · exact .inl z
    · obtain ⟨ek, hk⟩ := cut_A ek
      exact .inr (.inl ⟨k, ek, fun z => hk (List.mem_append_left _ z)⟩)
    · exact .inr (.inr ⟨o, hc⟩)
  · rw [e]
    refine ((r.cut _).unc ls).upd u (fun i hi h1 z => nF i hi h1 (unc_F.mp z).1) fun i hi a z => ?_
    rcases z with z | ⟨k, ek, _⟩ | ⟨o, q⟩
    · exact .inl z
    · obtain ⟨ek, hk⟩ := cut_A ek
      exact .inr (.inl ⟨k, ek, fun z => hk (List.mem_append_left _ z)⟩)
    · have := (unc_cl q).2 (i + 1000) List.mem_cons_self
      rw [cc_item] at this
      exact absurd (List.mem_map_of_mem hi) this
theorem wipe_at (σ : L2.St) (i : Nat) : ∀ vs : List Nat, (wipe σ vs)[i]? = if i ∈ vs ∧ i < σ.length then some none else σ[i]?
  | [] => by simp [L2.wipe]
  | v :: vs => by
    unfold L2.wipe
    by_cases h : v = i
    · subst h
      by_cases hl : v < σ.length
      · rw [List.getElem?_set_self (by rw [wipe_length]; exact hl), if_pos ⟨List.mem_cons_self, hl⟩]
      · rw [List.getElem?_eq_none (by rw [List.length_set, wipe_length]; omega), if_neg (fun z => hl z.2), List.getElem?_eq_none (by omega)]
    · rw [List.getElem?_set_ne h, wipe_at σ i vs]
      have e : (i ∈ v :: vs) ↔ i ∈ vs := by
        rw [List.mem_cons]
        exact ⟨fun z => z.elim (fun q => absurd q.symm h) id, .inr⟩
      simp only [e]
theorem wipe_upd {Av : Addr → Prop} {ls vs : List Nat} (u : Upd K H Av ls σ ρ σ' ρ') (hs : ∀ i ∈ ls, i ∈ vs) : L2.wipe σ' vs = L2.wipe σ vs := by
  refine List.ext_getElem? fun i => ?_
  rw [wipe_at, wipe_at, u.ls]
  rcases u.at_ i with ⟨_, h, _⟩ | ⟨hi, v, t, h, _⟩
  · rw [h]
  · have hl : i < σ.length := by
      rw [← u.ls]
      exact (List.getElem?_eq_some_iff.mp h).1
    rw [if_pos ⟨hs i hi, hl⟩, if_pos ⟨hs i hi, hl⟩]
theorem wipe_wipe (σ : L2.St) {vs ws : List Nat} (hs : ∀ i ∈ vs, i ∈ ws) : L2.wipe (L2.wipe σ vs) ws = L2.wipe σ ws := by
  refine List.ext_getElem? fun i => ?_
  rw [wipe_at, wipe_at, wipe_length, wipe_at]
  by_cases h : i ∈ ws ∧ i < σ.length
  · rw [if_pos h, if_pos h]
  · rw [if_neg h, if_neg h, if_neg fun z => h ⟨hs i z.1, z.2⟩]
end
theorem nox_ok {α : Type} {r : R α} {a : α} (h : r.nox = .ok a) : r = .ok a := by
  cases r with
  | ok b => exact h
  | ex c => cases h
  | no => cases h
/-- what a turn of a comprehension does -/
def turnE (c : Ctx) (p : Pat) (d e : Ex) (ρ : Env) (x : Tr) : R (Option Tr) := ((bindP p x ρ).bind fun ρ' => (tstT d (evE c d ρ')).bind fun t =>
  if t then (evE c e ρ').bind fun y => .ok (some y) else .ok none).nox
theorem turn_of {c : Ctx} {p : Pat} {d e : Ex} {ρ : Env} {x : Tr} {o : Option Tr} (h : turnE c p d e ρ x = .ok o) :
    ∃ ρ' t, bindP p x ρ = .ok ρ' ∧ evC c d ρ' = .ok t ∧ if t = true then ∃ y, evE c e ρ' = .ok y ∧ o = some y else o = none := by
  obtain ⟨ρ', h1, h2⟩ := bind_ok (nox_ok h)
  obtain ⟨t, h3, h4⟩ := bind_ok h2
  refine ⟨ρ', t, h1, h3, ?_⟩
  cases t with
  | true =>
    obtain ⟨y, h5, h6⟩ := bind_ok (show ((evE c e ρ').bind fun y => R.ok (some y)) = .ok o from h4)
    cases h6
    exact ⟨y, h5, rfl⟩
  | false => cases h4; exact iteF rfl
theorem compL_cons {f : Tr → R (Option Tr)} {x : Tr} {xs r : List Tr} (h : compL f (x :: xs) = .ok r) : ∃ o r', f x = .ok o ∧ compL f xs = .ok r' ∧ r = o.toList ++ r' := by
  obtain ⟨o, h1, h2⟩ := bind_ok h
  obtain ⟨r', h3, h4⟩ := bind_ok h2
  refine ⟨o, r', h1, h3, ?_⟩
  cases h4
  cases o <;> rfl
theorem qt_compL {f : Tr → R (Option Tr)} (h : ∀ x, Qt (f x)) : ∀ xs, Qt (compL f xs)
  | [] => qt_ok _
  | x :: xs => qt_bind (h x) fun _ => qt_bind (qt_compL h xs) fun _ => qt_ok _
theorem qt_compLL {f : Tr → R (List Tr)} (h : ∀ x, Qt (f x)) : ∀ xs, Qt (compLL f xs)
  | [] => qt_ok _
  | x :: xs => qt_bind (h x) fun _ => qt_bind (qt_compLL h xs) fun _ => qt_ok _
theorem qt_nox {α : Type} (r : R α) : Qt r.nox := fun x h => by cases r <;> cases h
theorem compLL_cons {f : Tr → R (List Tr)} {x : Tr} {xs r : List Tr} (h : compLL f (x :: xs) = .ok r) : ∃ o r', f x = .ok o ∧ compLL f xs = .ok r' ∧ r = o ++ r' := by
  obtain ⟨o, h1, h2⟩ := bind_ok h
  obtain ⟨r', h3, h4⟩ := bind_ok h2
  refine ⟨o, r', h1, h3, ?_⟩
  cases h4
  rfl
theorem lsz_ok {ts : List Tr} {t : Tr} (h : lsz ts = .ok t) : ts.length ≤ SZ ∧ t = .lst ts := by
  unfold lsz at h
  split at h
  · cases h
    exact ⟨by assumption, rfl⟩
  · cases h
/-- H' is H but for the list at D -/
def But (D : Addr) (H H' : Hp) : Prop := ∀ b o, H b = some o → b ≠ D → H' b = some o
theorem But.trans {D : Addr} {H H' H2 : Hp} (a : But D H H') (b : But D H' H2) : But D H H2 := fun x o e n => b x o (a x o e n) n
theorem But.of_same {D : Addr} {H H' : Hp} (a : Same H H') : But D H H' := fun x o e _ => a x o e
theorem but_upd {D : Addr} {H : Hp} {o : HO} : But D H (upd H D o) := fun x u e n => by rw [upd_ne n]; exact e
theorem But.keeps {D : Addr} {H H' : Hp} {Av : Addr → Prop} {xs : List V} (b : But D H H') (hD : H D = some (.lst xs)) (h : Av D) : Keeps Av H H' := fun x o e n => b x o e fun q => by
  subst q
  rw [hD] at e
  cases e
  exact n rfl h
theorem Rel.but {K : PySem.W.Frag} {g : Gh} {σ : L2.St} {ρ : Env} {H H' : Hp} {D : Addr} {xs ys : List V} (r : Rel K g σ ρ H) (b : But D H H') (hD : H D = some (.lst xs)) (hD' : H' D = some (.lst ys)) (hO : g.O D) (h0 : g.H0 D = none) : Rel K g σ ρ H' where
  same := fun x o e => b x o (r.same x o e) fun q => by rw [q, h0] at e; cases e
  oh := fun a z => by
    by_cases q : a = D
    · rw [q, hD']; simp
    · cases e : H a with
      | none => exact absurd e (r.oh a z)
      | some o => rw [b a o e q]; simp
  old := fun a z => by
    by_cases q : a = D
    · rw [q, hD']; simp
    · cases e : H a with
      | none => exact absurd e (r.old a z)
      | some o => rw [b a o e q]; simp
  len := r.len
  len2 := r.len2
  own2 := r.own2
  own := fun i a e => by
    obtain ⟨h1, h2, ⟨vs, h3⟩, h4⟩ := r.own i a e
    exact ⟨h1, h2, ⟨vs, b _ _ h3 fun q => h4 (by rw [q]; exact hO)⟩, h4⟩
  inj := r.inj
  val := fun i t e => by
    obtain ⟨v, h1, h2, h3⟩ := r.val i t e
    have kp : Keeps (g.Av [i + 1000]) H H' := b.keeps hD (.inl hO)
    rcases h3 with ⟨a, ts, e1, e2, e3⟩ | ⟨h4, h5⟩
    · refine ⟨v, h1, ?_, .inl ⟨a, ts, e1, e2, e3⟩⟩
      subst e2
      subst e3
      cases h2 with
      | lst q rr => exact .lst (b _ _ q fun q => (r.own i a e1).2.2.2 (by rw [q]; exact hO)) (rr.keep kp)
    · exact ⟨v, h1, (h4.keep kp).ri, .inr ⟨h4.keep kp, h5⟩⟩
theorem Wk.hid {K : PySem.W.Frag} {g : Gh} {it : It} {H1 : Hp} {J : L2.It} {xs : List Tr} {D : Addr} {o : HO} (w : Wk K g it H1 J xs) (hD : H1 D = none) : Wk K (g.hid D) it (upd H1 D o) J xs := by
  obtain ⟨G, Y, S, w, hG, hS, hk, hl, hf, hy⟩ := w.ex
  refine ⟨G, Y, S, w, fun H2 kp => hG H2 fun b u e n => ?_, hl _ _ _ (fun a z => (hid_av z).imp id fun e => by rw [e]; exact hD) (hk _ _ _ (hf _ _ hS) (Keeps.of_same (same_new hD))), hk, hl, hf, hy⟩
  have hb : b ≠ D := ne_of_none e hD
  exact kp b u (by rw [upd_ne hb]; exact e) fun m z => (hid_av z).elim (n m) hb
theorem turns {J : L2.It} {n : Nat} {G : Hp → Prop} {Y : Nat → Hp → V → Hp → Prop} (w : Walk J n G Y) {B : Nat → Hp → (Hp → Prop) → V → Hp → Prop} {Hs : Hp} {Qd : Hp → Prop} (Pv : Nat → Hp → Prop) (h0 : Pv 0 Hs) (hG : ∀ i H, i ≤ n → Pv i H → G H)
    (hs : ∀ i x H H', i < n → Pv i H → Y i H x H' → B i H (Pv (i + 1)) x H') (hd : ∀ H, Pv n H → Qd H) :
    ∃ W : Nat → Nat → Hp → Prop, (∃ m, W 0 m Hs) ∧ ∀ i m H, W i m H →
      (J.stop i H ∧ Qd H) ∨ (J.go i H ∧ ∃ Nx : Hp → Prop, (∀ H', Nx H' → ∃ m', m' < m ∧ W (i + 1) m' H') ∧ ∀ x H', J.yld i H x H' → B i H Nx x H') := by
  refine ⟨fun i m H => m = n - i ∧ i ≤ n ∧ Pv i H, ⟨n, by simp, Nat.zero_le _, h0⟩, ?_⟩
  rintro i m H ⟨rfl, hi, p⟩
  have q := hG i H hi p
  by_cases hlt : i < n
  · exact .inr ⟨w.goes i H hlt q, Pv (i + 1), fun H' p' => ⟨n - (i + 1), by omega, rfl, hlt, p'⟩, fun x H' y => hs i x H H' hlt p (w.yields i H x H' hlt q y)⟩
  · have e : i = n := by omega
    subst e
    exact .inl ⟨w.stops H q, hd H p⟩
abbrev W0 : WX := fun _ _ _ _ => False
section
variable {tb : Tb} {c : Ctx} {mg : Str → Option Value} {K : PySem.W.Frag}
/-- the turns of a comprehension's inner loop; D: the list that grows, ts0 what it held -/
theorem comp_walk {g : Gh} {σ : L2.St} {ρ : Env} {Hs : Hp} {J : L2.It} {it : It} {xs ts ts0 : List Tr} {p : Pat} {d e : Ex} {D : Addr} {vs : List Nat} {acc0 : List V} {AvR : Addr → Prop} {Qd : Hp → Prop}
    (r : Rel K g σ ρ Hs) (wk : Wk K g it Hs J xs) (hvs : ∀ i ∈ p.slots, i ∈ vs) (hc : compL (turnE c p d e (wipeE ρ vs)) xs = .ok ts)
    (hO : g.O D) (h0 : g.H0 D = none) (hD : Hs D = some (.lst acc0)) (r0 : Rps K Hs AvR acc0 ts0) (hz : (ts0 ++ ts).length ≤ SZ)
    (hAD : AvR D) (hAv : ∀ a, AvR a → g.Av (esc e ++ (escT it ++ vs)) a) (hQ : ∀ H acc, But D Hs H → H D = some (.lst acc) → Rps K H AvR acc (ts0 ++ ts) → Qd H) :
    ∃ W : Nat → Nat → Hp → Prop, (∃ m, W 0 m Hs) ∧ ∀ i m H, W i m H →
      (J.stop i H ∧ Qd H) ∨ (J.go i H ∧ ∃ Nx : Hp → Prop, (∀ H', Nx H' → ∃ m', m' < m ∧ W (i + 1) m' H') ∧ ∀ x H', J.yld i H x H' → rdP K p x (wipe σ vs) H' fun σ2 H2 => wipe σ2 vs = wipe σ vs ∧ rdC mg K c W0 d σ2 H2 fun b H3 =>
        if b = true then rdE mg K tb c W0 e σ2 H3 fun y H4 => ∃ acc, H4 D = some (.lst acc) ∧ acc.length < sizeLine ∧ Nx (upd H4 D (.lst (acc ++ [y]))) else Nx H3) := by
  obtain ⟨G, Y, S, w, hG, hS, hk, hl, hf, hy⟩ := wk.ex
  refine turns w (B := fun i H Nx x H' => rdP K p x (wipe σ vs) H' fun σ2 H2 => wipe σ2 vs = wipe σ vs ∧ rdC mg K c W0 d σ2 H2 fun b H3 =>
        if b = true then rdE mg K tb c W0 e σ2 H3 fun y H4 => ∃ acc, H4 D = some (.lst acc) ∧ acc.length < sizeLine ∧ Nx (upd H4 D (.lst (acc ++ [y]))) else Nx H3)
    (fun i H2 => But D Hs H2 ∧ ∃ acc ts1 ts2, H2 D = some (.lst acc) ∧ Rps K H2 AvR acc ts1 ∧ compL (turnE c p d e (wipeE ρ vs)) (xs.drop i) = .ok ts2 ∧ ts0 ++ ts = ts1 ++ ts2)
    ⟨fun _ _ e _ => e, acc0, ts0, ts, hD, r0, hc, rfl⟩ (fun i H2 _ pv => hG H2 (pv.1.keeps hD (.inl hO))) (fun i x H2 H3 hi ⟨b2, acc, ts1, ts2, h1, h2, h3, h4⟩ hy0 => ?_) fun H2 ⟨b2, acc, ts1, ts2, h1, h2, h3, h4⟩ => ?_
  · have S2 : S (g.Av (escT it)) H2 := hk _ _ _ hS (b2.keeps hD (.inl hO))
    obtain ⟨s3, t, ht, rp⟩ := hy i H2 x H3 _ hi S2 hy0
    have hdrop : xs.drop i = t :: xs.drop (i + 1) := by
      rw [List.drop_eq_getElem_cons hi]
      rw [List.getElem?_eq_getElem hi] at ht
      cases ht
      rfl
    rw [hdrop] at h3
    obtain ⟨o, ts2', ho, h3', e2⟩ := compL_cons h3
    obtain ⟨ρ', b, hb, hd, hb'⟩ := turn_of ho
    have rw_ : Rel K (g.cutW (escT it) vs) (wipe σ vs) (wipeE ρ vs) H3 := (((r.but b2 hD h1 hO h0).mono s3).cutW _ _).wipe vs
    have nF : ∀ j ∈ p.slots, j < 1000 → j ∉ (g.cutW (escT it) vs).F := fun j hj h1 z => (cutW_F z).2.elim (fun n => n (List.mem_append_right _ (hvs j hj))) fun q => by omega
    refine ⟨t, g.Av (escT it), wipeE ρ vs, ρ', rw_.len, rp, hb, fun σ2 u => ⟨?_, g.cutW (escT it) vs, ρ', rw_.upd u nF (fun j hj a z => cutW_slot (hvs j hj) z), ?_⟩⟩
    · rw [wipe_upd u hvs, wipe_wipe σ fun _ z => z]
    have r2 := rw_.upd u nF (fun j hj a z => cutW_slot (hvs j hj) z)
    rw [hd]
    intro H4 s4
    cases b with
    | false =>
      have ho' : o = none := hb'
      subst ho'
      exact iteF ⟨(b2.trans (.of_same s3)).trans (.of_same s4), acc, ts1, ts2', s4 _ _ (s3 _ _ h1), (h2.mono s3).mono s4, h3', by rw [h4, e2]; rfl⟩
    | true =>
      obtain ⟨y, hy1, ho'⟩ : ∃ y, evE c e ρ' = .ok y ∧ o = some y := hb'
      subst ho'
      refine iteT ⟨g.cutW (escT it) vs, ρ', r2.mono s4, ?_⟩
      rw [hy1]
      intro H5 v s5 z
      have hD5 : H5 D = some (.lst acc) := s5 _ _ (s4 _ _ (s3 _ _ h1))
      have rr : Rps K H5 AvR (acc ++ [v]) (ts1 ++ [y]) := (((h2.mono s3).mono s4).mono s5).append (.cons (z.rp.less fun a q => av_cutW (hAv a q)) .nil)
      have hlen : (ts0 ++ ts).length = (ts1 ++ (some y).toList ++ ts2').length := by rw [h4, e2, List.append_assoc]
      refine ⟨acc, hD5, ?_, ?_, acc ++ [v], ts1 ++ [y], ts2', upd_same, rr.keep (but_upd.keeps hD5 hAD), h3', by rw [h4, e2, List.append_assoc]; rfl⟩
      · rw [h2.length]
        rw [hlen, List.length_append, List.length_append] at hz
        have : (some y).toList.length = 1 := rfl
        have : SZ = sizeLine := SZ_eq
        omega
      · exact (((b2.trans (.of_same s3)).trans (.of_same s4)).trans (.of_same s5)).trans but_upd
  · rw [List.drop_length] at h3
    cases h3
    rw [List.append_nil] at h4
    exact hQ H2 acc b2 h1 (by rw [h4]; exact h2)
theorem comp_end {g : Gh} {σ : L2.St} {ρ : Env} {H1 H0 H2 : Hp} {D : Addr} {l : List Nat} {ts : List Tr} {acc : List V} {ex : Ex} (r : Rel K g σ ρ H1) (s0 : Same H0 H1) (hD : H1 D = none) (he : esc ex = l) (hv : noVar ex (esc ex) = esc ex)
    (b : But D (upd H1 D (.lst [])) H2) (h1 : H2 D = some (.lst acc)) (h2 : Rps K H2 (fun a => g.Av l a ∨ a = D) acc ts) : Same H0 H2 ∧ Rz K tb g ex H0 H2 (.ref D) (.lst ts) := by
  subst he
  refine ⟨s0.trans fun x o e => ?_, Rz.of hv (.lst h1 (fun z => r.av _ D z hD) (h2.less fun a z => .inl z)) fun _ us e => ?_⟩
  · have hx : x ≠ D := ne_of_none e hD
    exact b x o (by rw [upd_ne hx]; exact e) hx
  · cases e
    exact ⟨D, acc, rfl, s0.free hD, h1, h2⟩
theorem comp_go {W : WX} {σ : L2.St} {H : Hp} {Q : VK} {p : Pat} {it : It} {d e : Ex} (h : rdE mg K tb c W (.comp p it d e) σ H Q) :
    tLc (rdI mg K c W it) (rdP K p) (rdC mg K c W0 d) (rdE mg K tb c W0 e) p.slots σ H Q := by
  obtain ⟨g, ρ, r, q⟩ := h
  have q : Go mg W σ H ((evI c it ρ).bind fun xs => (compL (turnE c p d e (wipeE ρ p.slots)) xs).bind lsz) fun t => ∀ H' w, Same H H' → Rz K tb g (.comp p it d e) H H' w t → Q w H' := q
  refine ⟨g, ρ, r, (Go.bind q).imp fun xs _ q1 H1 J s1 wk D hD => ?_⟩
  obtain ⟨ts, hc, q2⟩ := (Go.bind q1).ok (qt_compL (fun x => qt_nox _) xs)
  obtain ⟨t, e1, q3⟩ := q2.ok qt_if
  obtain ⟨hz, rfl⟩ := lsz_ok e1
  have r1 := r.mono s1
  refine comp_walk (AvR := fun a => g.Av (esc (.comp p it d e)) a ∨ a = D) (ts0 := []) (acc0 := []) (r1.hid hD (same_new hD) (by rw [upd_same]; simp)) (wk.hid hD) (fun _ z => z) hc (.inr rfl) (r1.same.free hD) upd_same .nil hz (.inr rfl) (fun a z => ?_) fun H2 acc b h1 h2 => ?_
  · refine av_hid (z.imp (Gh.av_less (fun j hj => ?_) a) id)
    have e : esc (.comp p it d e) = esc e ++ escT it ++ p.slots := rfl
    rw [e]
    simp only [List.mem_append] at hj ⊢
    rcases hj with h | h | h <;> simp [h]
  · obtain ⟨s2, z⟩ := comp_end (tb := tb) (ex := .comp p it d e) r1 s1 hD rfl rfl b h1 h2
    exact q3 H2 _ s2 z
theorem yes_of {σ : L2.St} {H : Hp} {Q : Bool → Hp → Prop} (h : Q true H) : tYes σ H Q := h
theorem comp2_go {W : WX} {σ : L2.St} {H : Hp} {Q : VK} {p q' : Pat} {it it2 : It} {d e : Ex} (h : rdE mg K tb c W (.comp2 p it q' it2 d e) σ H Q) :
    tLc2 (rdI mg K c W it) (rdP K p) tYes (rdI mg K c W0 it2) (rdP K q') (rdC mg K c W0 d) (rdE mg K tb c W0 e) (p.slots ++ q'.slots) q'.slots σ H Q := by
  obtain ⟨g, ρ, r, q⟩ := h
  have q : Go mg W σ H ((evI c it ρ).bind fun xs => (compLL (fun x => ((bindP p x (wipeE ρ (p.slots ++ q'.slots))).bind fun ρ1 => (evI c it2 ρ1).bind fun ys => compL (turnE c q' d e (wipeE ρ1 q'.slots)) ys).nox) xs).bind lsz)
    fun t => ∀ H' w, Same H H' → Rz K tb g (.comp2 p it q' it2 d e) H H' w t → Q w H' := q
  generalize hF : (fun x => ((bindP p x (wipeE ρ (p.slots ++ q'.slots))).bind fun ρ1 => (evI c it2 ρ1).bind fun ys => compL (turnE c q' d e (wipeE ρ1 q'.slots)) ys).nox) = F at q
  refine ⟨g, ρ, r, (Go.bind q).imp fun xs _ q1 H1 J s1 wk D hD => ?_⟩
  obtain ⟨ts, hc, q2⟩ := (Go.bind q1).ok (qt_compLL (fun x => by rw [← hF]; exact qt_nox _) xs)
  obtain ⟨t, e1, q3⟩ := q2.ok qt_if
  obtain ⟨hz, rfl⟩ := lsz_ok e1
  have r1 := r.mono s1
  have rh := r1.hid hD (same_new (o := .lst []) hD) (by rw [upd_same]; simp)
  have h0 : (g.hid D).H0 D = none := r1.same.free hD
  have hO : (g.hid D).O D := .inr rfl
  obtain ⟨G, Y, S, w, hG, hS, hk, hl, hf, hy⟩ := (wk.hid (o := .lst []) hD).ex
  have hD0 : upd H1 D (.lst []) D = some (.lst []) := upd_same
  generalize hvs : p.slots ++ q'.slots = vs at hF ⊢
  have hes : ∀ j, j ∈ (esc e ++ (escT it2 ++ q'.slots)) ++ (escT it ++ vs) → j ∈ esc (.comp2 p it q' it2 d e) := fun j hj => by
    have e : esc (.comp2 p it q' it2 d e) = esc e ++ escT it ++ escT it2 ++ (p.slots ++ q'.slots) := rfl
    rw [e]
    rw [← hvs] at hj
    simp only [List.mem_append] at hj ⊢
    rcases hj with (h | h | h) | h | h | h <;> simp [h]
  refine turns w (B := fun i H Nx x H' => rdP K p x (wipe σ vs) H' fun σ2 H2 => wipe σ2 vs = wipe σ vs ∧ tYes σ2 H2 fun b H3 =>
    if b = true then rdI mg K c W0 it2 σ2 H3 fun J1 H4 => ∃ W1 : Nat → Nat → Hp → Prop, (∃ m, W1 0 m H4) ∧ ∀ j k H, W1 j k H →
      (J1.stop j H ∧ Nx H) ∨ (J1.go j H ∧ ∃ Nx1 : Hp → Prop, (∀ H', Nx1 H' → ∃ k', k' < k ∧ W1 (j + 1) k' H') ∧ ∀ x H', J1.yld j H x H' → rdP K q' x (wipe σ2 q'.slots) H' fun σ3 H5 => wipe σ3 q'.slots = wipe σ2 q'.slots ∧ rdC mg K c W0 d σ3 H5 fun b H6 =>
        if b = true then rdE mg K tb c W0 e σ3 H6 fun y H7 => ∃ acc, H7 D = some (.lst acc) ∧ acc.length < sizeLine ∧ Nx1 (upd H7 D (.lst (acc ++ [y]))) else Nx1 H6)
    else Nx H3)
    (fun i H2 => But D (upd H1 D (.lst [])) H2 ∧ ∃ acc ts1 ts2, H2 D = some (.lst acc) ∧ Rps K H2 (fun a => g.Av (esc (.comp2 p it q' it2 d e)) a ∨ a = D) acc ts1 ∧ compLL F (xs.drop i) = .ok ts2 ∧ ts = ts1 ++ ts2)
    ⟨fun _ _ e _ => e, [], [], ts, hD0, .nil, hc, rfl⟩ (fun i H2 _ pv => hG H2 (pv.1.keeps hD0 (.inl hO))) (fun i x H2 H3 hi ⟨b2, acc, ts1, ts2, h1, h2, h3, h4⟩ hy0 => ?_) fun H2 ⟨b2, acc, ts1, ts2, h1, h2, h3, h4⟩ => ?_
  · have S2 : S ((g.hid D).Av (escT it)) H2 := hk _ _ _ hS (b2.keeps hD0 (.inl hO))
    obtain ⟨s3, t, ht, rp⟩ := hy i H2 x H3 _ hi S2 hy0
    have hdrop : xs.drop i = t :: xs.drop (i + 1) := by
      rw [List.drop_eq_getElem_cons hi]
      rw [List.getElem?_eq_getElem hi] at ht
      cases ht
      rfl
    rw [hdrop] at h3
    obtain ⟨o, ts2', ho, h3', e2⟩ := compLL_cons h3
    rw [← hF] at ho
    obtain ⟨ρ1, hb, ho⟩ := bind_ok (nox_ok ho)
    obtain ⟨ys, hys, ho⟩ := bind_ok ho
    have rw_ : Rel K ((g.hid D).cutW (escT it) vs) (wipe σ vs) (wipeE ρ vs) H3 := (((rh.but b2 hD0 h1 hO h0).mono s3).cutW _ _).wipe vs
    have hsl : ∀ j ∈ p.slots, j ∈ vs := fun j hj => by rw [← hvs]; exact List.mem_append_left _ hj
    refine ⟨t, (g.hid D).Av (escT it), wipeE ρ vs, ρ1, rw_.len, rp, hb, fun σ2 u => ⟨by rw [wipe_upd u hsl, wipe_wipe σ fun _ z => z], ?_⟩⟩
    have r2 := rw_.upd u (fun j hj h1 z => (cutW_F z).2.elim (fun n => n (List.mem_append_right _ (hsl j hj))) fun q => by omega) (fun j hj a z => cutW_slot (hsl j hj) z)
    refine yes_of ?_
    rw [if_pos rfl]
    refine ⟨(g.hid D).cutW (escT it) vs, ρ1, r2, ?_⟩
    rw [hys]
    intro H4 J1 s4 wk1
    have hD4 : H4 D = some (.lst acc) := s4 _ _ (s3 _ _ h1)
    refine comp_walk (AvR := fun a => g.Av (esc (.comp2 p it q' it2 d e)) a ∨ a = D) (ts0 := ts1) (acc0 := acc) (D := D) (r2.mono s4) wk1 (fun _ z => z) ho (by rw [cutW_O.1]; exact hO) (by rw [cutW_O.2.1]; exact h0) hD4 ((h2.mono s3).mono s4) ?_ (.inr rfl) (fun a z => ?_) fun H5 acc' b5 h5 h6 => ?_
    · rw [h4, e2, ← List.append_assoc, List.length_append] at hz
      omega
    · exact av_cutW (av_hid (z.imp (Gh.av_less (fun j hj => hes j hj) a) id))
    · exact ⟨((b2.trans (.of_same s3)).trans (.of_same s4)).trans b5, acc', ts1 ++ o, ts2', h5, h6, h3', by rw [h4, e2, List.append_assoc]⟩
  · rw [List.drop_length] at h3
    cases h3
    rw [List.append_nil] at h4
    subst h4
    obtain ⟨s2, z⟩ := comp_end (tb := tb) (ex := .comp2 p it q' it2 d e) r1 s1 hD rfl rfl b2 h1 h2
    exact q3 H2 _ s2 z
end
theorem _root_.L2.PTs.to {X : Cx} {e : List Expr} {t t' : TT} (h : PTs X e t) (i : ∀ σ H Q, t' σ H Q → t σ H Q) : PTs X e t' := ⟨fun pins s σ H Q I q => h.run pins s σ H Q I (i σ H Q q)⟩
theorem ts_nil {X : Cx} {c : Ctx} {W : WX} : PTs X [] (rdC X.mg X.K c W .nil) := pts_nil.to fun σ H Q ⟨g, ρ, r, q⟩ => (show Go X.mg W σ H (R.ok true) (fun t => ∀ H', Same H H' → Q t H') from q) H (Same.refl H)
end Jr

/-! All expressions. -/
namespace Jr
open PySem PySem.Spec PyProof.Rows L2

section
variable {tb : Tb} {c : Ctx} {k : Nat} {N : List Str} {W : WX} {X : Cx} {sc osc : Scope}
theorem folded {iter : Expr} (h : notSet iter = true) (env : PySem.Env) (y : Value) : foldedSetIterable iter env y = pure y := by
  cases iter <;> first | rfl | cases h
theorem s_comp (x : XOk tb c k N W X sc osc) {p : Pat} {it : It} {d e : Ex} {tg iter elt : Expr} {ifs : List Expr} {scope : Scope} {pos : Pos} (hi : SI tb c W X tg iter it) (hb : blkC N sc scope (ownOf N p.slots) = true) (hp : mP N scope p tg = true) (hs : notSet iter = true)
    (ht : ∀ X', XOk tb c k N W0 X' (relS scope sc) scope → PTs X' ifs (rdC X'.mg X'.K c W0 d)) (he : ∀ X', XOk tb c k N W0 X' (relS scope sc) scope → SE tb c W0 X' elt e) :
    SE tb c W X (.ListComp elt [⟨tg, iter, ifs, 0⟩] scope pos) (.comp p it d e) := by
  have ok : BlkOk X.N X.env.scope scope (ownOf N p.slots) := by rw [x.hN, x.hsc]; exact blkOk_by hb
  have h := pe_lc (te := rdE X.mg X.K tb c W0 e) (tt := rdC X.mg X.K c W0 d) (g := rdP X.K p) (pos := pos) x.calm (by rw [x.hN]; exact x.nd) hi ok (fun s H C cl fp => p_ok (XOk.blk x) hp) (fun s H C cl fp => ht _ (XOk.blk (s := s) (H := H) (C := C) (cl := cl) (fp := fp) x)) (fun s H C cl fp => he _ (XOk.blk (s := s) (H := H) (C := C) (cl := cl) (fp := fp) x)) (folded hs _)
  rw [ownOf_snd] at h
  exact h.to fun σ H Q q => comp_go q
theorem s_comp2 (x : XOk tb c k N W X sc osc) {p q : Pat} {it it2 : It} {d e : Ex} {tg iter tg2 iter2 elt : Expr} {ifs2 : List Expr} {scope : Scope} {pos : Pos} (hi : SI tb c W X tg iter it) (hb : blkC N sc scope (ownOf N (p.slots ++ q.slots)) = true) (hp : mP N scope p tg = true) (hq : mP N scope q tg2 = true)
    (hs : notSet iter = true) (hs2 : notSet iter2 = true) (hi2 : ∀ X', XOk tb c k N W0 X' (relS scope sc) scope → SI tb c W0 X' tg2 iter2 it2)
    (ht : ∀ X', XOk tb c k N W0 X' (relS scope sc) scope → PTs X' ifs2 (rdC X'.mg X'.K c W0 d)) (he : ∀ X', XOk tb c k N W0 X' (relS scope sc) scope → SE tb c W0 X' elt e) :
    SE tb c W X (.ListComp elt [⟨tg, iter, [], 0⟩, ⟨tg2, iter2, ifs2, 0⟩] scope pos) (.comp2 p it q it2 d e) := by
  have ok : BlkOk X.N X.env.scope scope (ownOf N (p.slots ++ q.slots)) := by rw [x.hN, x.hsc]; exact blkOk_by hb
  have h := pe_lc2 (te := rdE X.mg X.K tb c W0 e) (tt1 := rdC X.mg X.K c W0 d) (g := rdP X.K p) (g1 := rdP X.K q) (wi1 := rdI X.mg X.K c W0 it2) (tt := tYes) (vs1 := q.slots) (pos := pos) x.calm (by rw [x.hN]; exact x.nd) hi ok (fun i hi => by rw [ownOf_snd]; exact List.mem_append_right _ hi) (fun s H C cl fp => p_ok (XOk.blk x) hp) (fun s H C cl fp => pts_nil) (fun s H C cl fp => hi2 _ (XOk.blk (s := s) (H := H) (C := C) (cl := cl) (fp := fp) x)) (fun s H C cl fp => p_ok (XOk.blk x) hq)
    (fun s H C cl fp => ht _ (XOk.blk (s := s) (H := H) (C := C) (cl := cl) (fp := fp) x)) (fun s H C cl fp => he _ (XOk.blk (s := s) (H := H) (C := C) (cl := cl) (fp := fp) x)) (folded hs _) (folded hs2)
  rw [ownOf_snd] at h
  exact h.to fun σ H Q q => comp2_go q
end

theorem mE_int {tb : Tb} {N : List Str} {sc : Scope} {i} {e} : mE tb N sc (.int i) e = (match e with
    | .Constant (.int j) _ _ => decide (i = j)
    | _ => false) := rfl
theorem mE_bl {tb : Tb} {N : List Str} {sc : Scope} {b} {e} : mE tb N sc (.bl b) e = (match e with
    | .Constant (.bool c) _ _ => b == c
    | _ => false) := rfl
theorem mE_non {tb : Tb} {N : List Str} {sc : Scope}  {e} : mE tb N sc (.non ) e = (match e with
    | .Constant .none _ _ => true
    | _ => false) := rfl
theorem mE_str {tb : Tb} {N : List Str} {sc : Scope} {s} {e} : mE tb N sc (.str s) e = (match e with
    | .Constant (.str z) _ _ => decide (s = z)
    | _ => false) := rfl
theorem mE_var {tb : Tb} {N : List Str} {sc : Scope} {i} {e} : mE tb N sc (.var i) e = (match e with
    | .Name x _ => varB N sc i x
    | _ => false) := rfl
theorem mE_gl {tb : Tb} {N : List Str} {sc : Scope} {i} {e} : mE tb N sc (.gl i) e = (match e with
    | .Name x _ => decide (tb.gls[i]? = some x) && glB sc x
    | _ => false) := rfl
theorem mE_ims {tb : Tb} {N : List Str} {sc : Scope} {a} {e} : mE tb N sc (.ims a) e = (fresh tb a && mE tb N sc a e) := rfl
theorem mE_im {tb : Tb} {N : List Str} {sc : Scope} {a} {e} : mE tb N sc (.im a) e = (mE tb N sc a e) := rfl
theorem mE_bin {tb : Tb} {N : List Str} {sc : Scope} {o} {a} {b} {e} : mE tb N sc (.bin o a b) e = (match e with
    | .BinOp x op y _ => decide (op = boO o) && mE tb N sc a x && mE tb N sc b y
    | _ => false) := rfl
theorem mE_neg {tb : Tb} {N : List Str} {sc : Scope} {a} {e} : mE tb N sc (.neg a) e = (match e with
    | .UnaryOp .USub x _ => mE tb N sc a x
    | _ => false) := rfl
theorem mE_not {tb : Tb} {N : List Str} {sc : Scope} {a} {e} : mE tb N sc (.not a) e = (match e with
    | .UnaryOp .Not x _ => mE tb N sc a x
    | _ => false) := rfl
theorem mE_cmp {tb : Tb} {N : List Str} {sc : Scope} {o} {a} {b} {e} : mE tb N sc (.cmp o a b) e = (match e with
    | .Compare x [op] [y] _ => decide (op = coO o) && notSet y && mE tb N sc a x && mE tb N sc b y
    | _ => false) := rfl
theorem mE_chain {tb : Tb} {N : List Str} {sc : Scope} {o} {o'} {a} {b} {c} {e} : mE tb N sc (.chain o o' a b c) e = (match e with
    | .Compare x [op, op'] [y, z] _ => decide (op = coO o) && decide (op' = coO o') && notSet z && mE tb N sc a x && mE tb N sc b y && mE tb N sc c z
    | _ => false) := rfl
theorem mE_and {tb : Tb} {N : List Str} {sc : Scope} {a} {b} {e} : mE tb N sc (.and a b) e = (match e with
    | .BoolOp .And (x :: y :: r) pos => mE tb N sc a x && (match r with
      | [] => mE tb N sc b y
      | _ => mE tb N sc b (.BoolOp .And (y :: r) pos))
    | _ => false) := rfl
theorem mE_or {tb : Tb} {N : List Str} {sc : Scope} {a} {b} {e} : mE tb N sc (.or a b) e = (match e with
    | .BoolOp .Or (x :: y :: r) pos => mE tb N sc a x && (match r with
      | [] => mE tb N sc b y
      | _ => mE tb N sc b (.BoolOp .Or (y :: r) pos))
    | _ => false) := rfl
theorem mE_ite {tb : Tb} {N : List Str} {sc : Scope} {c} {a} {b} {e} : mE tb N sc (.ite c a b) e = (match e with
    | .IfExp z x y _ => mC tb N sc c z && mE tb N sc a x && mE tb N sc b y
    | _ => false) := rfl
theorem mE_tup {tb : Tb} {N : List Str} {sc : Scope} {es} {e} : mE tb N sc (.tup es) e = (match e with
    | .Tuple xs _ _ => mEs tb N sc es xs
    | _ => false) := rfl
theorem mE_lst {tb : Tb} {N : List Str} {sc : Scope} {es} {e} : mE tb N sc (.lst es) e = (match e with
    | .List xs _ => mEs tb N sc es xs
    | _ => false) := rfl
theorem mE_idx {tb : Tb} {N : List Str} {sc : Scope} {a} {i} {e} : mE tb N sc (.idx a i) e = (match e with
    | .Subscript x y _ => notSlice y && mE tb N sc a x && mE tb N sc i y
    | _ => false) := rfl
theorem mE_slk {tb : Tb} {N : List Str} {sc : Scope} {k} {a} {lo} {hi} {e} : mE tb N sc (.slk k a lo hi) e = (match e with
    | .Subscript x (.Slice l h (some (.Constant (.int j) _ _)) _) _ => decide (j = (k : Int)) && decide (1 ≤ k) && mE tb N sc a x && (match l with
      | none => isNil lo
      | some l => mE tb N sc lo l) && (match h with
      | none => isNil hi
      | some h => mE tb N sc hi h)
    | _ => false) := rfl
theorem mE_slc {tb : Tb} {N : List Str} {sc : Scope} {a} {lo} {hi} {e} : mE tb N sc (.slc a lo hi) e = (match e with
    | .Subscript x (.Slice l h none _) _ => mE tb N sc a x && (match l with
      | none => isNil lo
      | some l => mE tb N sc lo l) && (match h with
      | none => isNil hi
      | some h => mE tb N sc hi h)
    | _ => false) := rfl
theorem mE_rev {tb : Tb} {N : List Str} {sc : Scope} {a} {e} : mE tb N sc (.rev a) e = (match e with
    | .Subscript x (.Slice none none (some (.UnaryOp .USub (.Constant (.int i) _ _) _)) _) _ => decide (i = 1) && mE tb N sc a x
    | _ => false) := rfl
theorem mE_cald {tb : Tb} {N : List Str} {sc : Scope} {f} {es} {e} : mE tb N sc (.cald f es) e = (match e with
    | .Call (.Name x _) (y :: ys) [] _ => decide ((tb.fns[f]?.map (·.name)) = some x) && glB sc x && ((tb.fns[f]?.map (·.dfr)).getD false) && mEs tb N sc es (y :: ys)
    | _ => false) := rfl
theorem mE_call {tb : Tb} {N : List Str} {sc : Scope} {f} {es} {e} : mE tb N sc (.call f es) e = (match e with
    | .Call (.Name x _) (y :: ys) [] _ => decide ((tb.fns[f]?.map (·.name)) = some x) && glB sc x && mEs tb N sc es (y :: ys)
    | _ => false) := rfl
theorem mE_bi {tb : Tb} {N : List Str} {sc : Scope} {b} {es} {e} : mE tb N sc (.bi b es) e = (match e with
    | .Call (.Name x _) (y :: ys) [] _ => biB tb sc (biN b) x && notIsi b && mEs tb N sc es (y :: ys)
    | _ => false) := rfl
theorem mE_isi {tb : Tb} {N : List Str} {sc : Scope} {t} {a} {e} : mE tb N sc (.isi t a) e = (match e with
    | .Call (.Name x _) [y, .Name z _] [] _ => biB tb sc (biN (.isi t)) x && notStar y && mE tb N sc a y && biB tb sc (Str.ofString (tyN t)) z
    | _ => false) := rfl
theorem mE_lrg1 {tb : Tb} {N : List Str} {sc : Scope} {a} {e} : mE tb N sc (.lrg1 a) e = (match e with
    | .Call (.Name x _) [.Call (.Name y _) [z] [] _] [] _ => biB tb sc "list" x && biB tb sc "range" y && notStar z && mE tb N sc a z
    | _ => false) := rfl
theorem mE_lrg2 {tb : Tb} {N : List Str} {sc : Scope} {a} {b} {e} : mE tb N sc (.lrg2 a b) e = (match e with
    | .Call (.Name x _) [.Call (.Name y _) [z, w] [] _] [] _ => biB tb sc "list" x && biB tb sc "range" y && notStar z && notStar w && mE tb N sc a z && mE tb N sc b w
    | _ => false) := rfl
theorem mE_ind {tb : Tb} {N : List Str} {sc : Scope} {i} {b} {e} : mE tb N sc (.ind i b) e = (match e with
    | .Call (.Attribute (.Name x _) nm apos) [v] [] cpos => decide (nm = ("index" : Str)) && varB N sc i x && notStar v && mE tb N sc b v && (apos.endLine == cpos.line)
    | _ => false) := rfl
theorem mE_comp {tb : Tb} {N : List Str} {sc : Scope} {p} {it} {c} {a} {e} : mE tb N sc (.comp p it c a) e = (match e with
    | .ListComp elt [⟨tg, iter, ifs, k⟩] scope _ => decide (k = 0) && mI tb N sc it iter && tgOk it tg && notSet iter && blkC N sc scope (ownOf N p.slots) && mP N scope p tg && (match ifs with
      | [] => isNil c
      | [d] => mC tb N (relS scope sc) c d
      | _ => false) && mE tb N (relS scope sc) a elt
    | _ => false) := rfl
theorem mE_comp2 {tb : Tb} {N : List Str} {sc : Scope} {p} {it} {q} {it2} {c} {a} {e} : mE tb N sc (.comp2 p it q it2 c a) e = (match e with
    | .ListComp elt [⟨tg, iter, ifs, k⟩, ⟨tg2, iter2, ifs2, k2⟩] scope _ => decide (k = 0) && decide (k2 = 0) && ifs.isEmpty && mI tb N sc it iter && tgOk it tg && notSet iter && blkC N sc scope (ownOf N (p.slots ++ q.slots)) && mP N scope p tg &&
      mI tb N (relS scope sc) it2 iter2 && tgOk it2 tg2 && notSet iter2 && mP N scope q tg2 && (match ifs2 with
      | [] => isNil c
      | [d] => mC tb N (relS scope sc) c d
      | _ => false) && mE tb N (relS scope sc) a elt
    | _ => false) := rfl
theorem mE_nil {tb : Tb} {N : List Str} {sc : Scope}  {e} : mE tb N sc (.nil ) e = (false) := rfl
theorem mC_not {tb : Tb} {N : List Str} {sc : Scope} {a} {e} : mC tb N sc (.not a) e = (match e with
    | .UnaryOp .Not x _ => mC tb N sc a x
    | _ => false) := rfl
theorem mC_and {tb : Tb} {N : List Str} {sc : Scope} {a} {b} {e} : mC tb N sc (.and a b) e = (match e with
    | .BoolOp .And (x :: y :: r) pos => mC tb N sc a x && (match r with
      | [] => mC tb N sc b y
      | _ => mC tb N sc b (.BoolOp .And (y :: r) pos))
    | _ => false) := rfl
theorem mC_or {tb : Tb} {N : List Str} {sc : Scope} {a} {b} {e} : mC tb N sc (.or a b) e = (match e with
    | .BoolOp .Or (x :: y :: r) pos => mC tb N sc a x && (match r with
      | [] => mC tb N sc b y
      | _ => mC tb N sc b (.BoolOp .Or (y :: r) pos))
    | _ => false) := rfl
theorem mC_cmp {tb : Tb} {N : List Str} {sc : Scope} {o} {a} {b} {e} : mC tb N sc (.cmp o a b) e = (match e with
    | .Compare x [op] [y] _ => decide (op = coO o) && notSet y && mE tb N sc a x && mE tb N sc b y
    | _ => false) := rfl
theorem mC_chain {tb : Tb} {N : List Str} {sc : Scope} {o} {o'} {a} {b} {c} {e} : mC tb N sc (.chain o o' a b c) e = (match e with
    | .Compare x [op, op'] [y, z] _ => decide (op = coO o) && decide (op' = coO o') && notSet z && mE tb N sc a x && mE tb N sc b y && mE tb N sc c z
    | _ => false) := rfl
theorem mC_nil {tb : Tb} {N : List Str} {sc : Scope}  {e} : mC tb N sc (.nil ) e = (false) := rfl
theorem mC_bi {tb : Tb} {N : List Str} {sc : Scope} {b} {es} {e} : mC tb N sc (.bi b es) e = (match e with
    | .Call (.Name x _) (y :: ys) [] _ => biB tb sc (biN b) x && notIsi b && mEs tb N sc es (y :: ys)
    | _ => false) := rfl
theorem mC_isi {tb : Tb} {N : List Str} {sc : Scope} {t} {a} {e} : mC tb N sc (.isi t a) e = (match e with
    | .Call (.Name x _) [y, .Name z _] [] _ => biB tb sc (biN (.isi t)) x && notStar y && mE tb N sc a y && biB tb sc (Str.ofString (tyN t)) z
    | _ => false) := rfl
theorem mC_call {tb : Tb} {N : List Str} {sc : Scope} {f} {es} {e} : mC tb N sc (.call f es) e = (match e with
    | .Call (.Name x _) (y :: ys) [] _ => decide ((tb.fns[f]?.map (·.name)) = some x) && glB sc x && mEs tb N sc es (y :: ys)
    | _ => false) := rfl
theorem mC_var {tb : Tb} {N : List Str} {sc : Scope} {i} {e} : mC tb N sc (.var i) e = (match e with
    | .Name x _ => varB N sc i x
    | _ => false) := rfl
theorem mC_idx {tb : Tb} {N : List Str} {sc : Scope} {a} {i} {e} : mC tb N sc (.idx a i) e = (match e with
    | .Subscript x y _ => notSlice y && mE tb N sc a x && mE tb N sc i y
    | _ => false) := rfl
theorem mC_bin {tb : Tb} {N : List Str} {sc : Scope} {o} {a} {b} {e} : mC tb N sc (.bin o a b) e = (match e with
    | .BinOp x op y _ => decide (op = boO o) && mE tb N sc a x && mE tb N sc b y
    | _ => false) := rfl
theorem mEs_nil {tb : Tb} {N : List Str} {sc : Scope}  {xs} : mEs tb N sc (.nil ) xs = (xs.isEmpty) := rfl
theorem mEs_cons {tb : Tb} {N : List Str} {sc : Scope} {e} {es} {xs} : mEs tb N sc (.cons e es) xs = (match xs with
    | x :: xs => notStar x && mE tb N sc e x && mEs tb N sc es xs
    | [] => false) := rfl
theorem mI_of {tb : Tb} {N : List Str} {sc : Scope} {a} {e} : mI tb N sc (.of a) e = (mE tb N sc a e) := rfl
theorem mI_rng1 {tb : Tb} {N : List Str} {sc : Scope} {a} {e} : mI tb N sc (.rng1 a) e = (match e with
    | .Call (.Name x _) [y] [] _ => biB tb sc "range" x && notStar y && mE tb N sc a y
    | _ => false) := rfl
theorem mI_rng2 {tb : Tb} {N : List Str} {sc : Scope} {a} {b} {e} : mI tb N sc (.rng2 a b) e = (match e with
    | .Call (.Name x _) [y, z] [] _ => biB tb sc "range" x && notStar y && notStar z && mE tb N sc a y && mE tb N sc b z
    | _ => false) := rfl
theorem mI_enum {tb : Tb} {N : List Str} {sc : Scope} {a} {e} : mI tb N sc (.enum a) e = (match e with
    | .Call (.Name x _) [y] [] _ => biB tb sc "enumerate" x && notStar y && mE tb N sc a y
    | _ => false) := rfl
theorem mI_zip {tb : Tb} {N : List Str} {sc : Scope} {a} {b} {e} : mI tb N sc (.zip a b) e = (match e with
    | .Call (.Name x _) [y, z] [] _ => biB tb sc "zip" x && notStar y && notStar z && mE tb N sc a y && mE tb N sc b z
    | _ => false) := rfl
def isBoolE : Expr → Bool
  | .BoolOp _ _ _ => true
  | _ => false
theorem both {tb : Tb} {c : Ctx} {W : WX} {X : Cx} {x : Expr} {a : Ex} (h : SW c W X x a) : SC tb c W X x a ∧ (isBoolE x = true → SW c W X x a) := ⟨h.pt, fun _ => h⟩
section
variable (tb : Tb) (c : Ctx) (N : List Str)
def GE (a : Ex) : Prop := ∀ (k : Nat) (W : WX) (X : Cx) (sc osc : Scope) (x : Expr), XOk tb c k N W X sc osc → mE tb N sc a x = true → SE tb c W X x a
def GC (a : Ex) : Prop := ∀ (k : Nat) (W : WX) (X : Cx) (sc osc : Scope) (x : Expr), XOk tb c k N W X sc osc → mC tb N sc a x = true → SC tb c W X x a ∧ (isBoolE x = true → SW c W X x a)
def GA (es : Exs) : Prop := ∀ (k : Nat) (W : WX) (X : Cx) (sc osc : Scope) (xs : List Expr), XOk tb c k N W X sc osc → mEs tb N sc es xs = true → SA tb c W X xs es
def GI (it : It) : Prop := ∀ (k : Nat) (W : WX) (X : Cx) (sc osc : Scope) (tg x : Expr), XOk tb c k N W X sc osc → mI tb N sc it x = true → tgOk it tg = true → SI tb c W X tg x it
end
section
variable {tb : Tb} {c : Ctx} {N : List Str}
theorem mE_nn {sc : Scope} {a : Ex} {x : Expr} (h : mE tb N sc a x = true) : a ≠ .nil := fun e => by
  subst e
  exact nomatch (show false = true from h)
theorem mC_nn {sc : Scope} {a : Ex} {x : Expr} (h : mC tb N sc a x = true) : a ≠ .nil := fun e => by
  subst e
  exact nomatch (show false = true from h)
theorem isNil_of {a : Ex} (h : isNil a = true) : a = .nil := by
  cases a <;> first | rfl | cases h
variable (hl : ∀ (f : Nat) (d : Fn), tb.fns[f]? = some d → ∀ ts, ts.length ≠ d.np → c.cal f ts = .no)
include hl
mutual
theorem all_ok : (a : Ex) → GE tb c N a ∧ GC tb c N a
  | .int i => ⟨(fun k W X sc osc x xo h => by
      rw [mE_int] at h; split at h
      · rw [decide_eq_true_eq] at h; subst h; exact s_int
      · cases h), fun k W X sc osc x xo h => by cases h⟩
  | .bl i => ⟨(fun k W X sc osc x xo h => by
      rw [mE_bl] at h; split at h
      · rw [beq_iff_eq] at h; subst h; exact s_bl
      · cases h), fun k W X sc osc x xo h => nomatch (show false = true from h)⟩
  | .non => ⟨(fun k W X sc osc x xo h => by
      rw [mE_non] at h; split at h
      · exact s_non
      · cases h), fun k W X sc osc x xo h => nomatch (show false = true from h)⟩
  | .str s => ⟨(fun k W X sc osc x xo h => by
      rw [mE_str] at h; split at h
      · rw [decide_eq_true_eq] at h; subst h; exact s_str
      · cases h), fun k W X sc osc x xo h => nomatch (show false = true from h)⟩
  | .var i => by
      have e : GE tb c N (.var i) := fun k W X sc osc x xo h => by
        rw [mE_var] at h; split at h
        · exact s_var xo h
        · cases h
      refine ⟨e, fun k W X sc osc x xo h => ?_⟩
      rw [mC_var] at h; split at h
      · exact ⟨c_val (fun z => nomatch z) (e k W X sc osc _ xo (by rw [mE_var]; exact h)) (fun _ => rfl), fun z => nomatch z⟩
      · cases h
  | .gl i => ⟨(fun k W X sc osc x xo h => by
      rw [mE_gl] at h; split at h
      · rw [Bool.and_eq_true, decide_eq_true_eq] at h; exact s_gl xo h.1 h.2
      · cases h), fun k W X sc osc x xo h => nomatch (show false = true from h)⟩
  | .im a => ⟨(fun k W X sc osc x xo h => by
      rw [mE_im] at h
      exact s_im ((all_ok a).1 k W X sc osc x xo h)), fun k W X sc osc x xo h => nomatch (show false = true from h)⟩
  | .ims a => ⟨(fun k W X sc osc x xo h => by
      rw [mE_ims, Bool.and_eq_true] at h
      exact s_ims h.1 ((all_ok a).1 k W X sc osc x xo h.2)), fun k W X sc osc x xo h => nomatch (show false = true from h)⟩
  | .bin o a b => by
      have e : GE tb c N (.bin o a b) := fun k W X sc osc x xo h => by
        rw [mE_bin] at h; split at h
        · simp only [Bool.and_eq_true, decide_eq_true_eq] at h
          obtain ⟨⟨h1, h2⟩, h3⟩ := h
          subst h1
          exact s_bin ((all_ok a).1 _ _ _ _ _ _ xo h2) ((all_ok b).1 _ _ _ _ _ _ xo h3)
        · cases h
      refine ⟨e, fun k W X sc osc x xo h => ?_⟩
      rw [mC_bin] at h; split at h
      · exact ⟨c_val (fun z => nomatch z) (e k W X sc osc _ xo (by rw [mE_bin]; exact h)) (fun _ => rfl), fun z => nomatch z⟩
      · cases h
  | .neg a => ⟨(fun k W X sc osc x xo h => by
      rw [mE_neg] at h; split at h
      · exact s_neg ((all_ok a).1 _ _ _ _ _ _ xo h)
      · cases h), fun k W X sc osc x xo h => nomatch (show false = true from h)⟩
  | .not a => ⟨(fun k W X sc osc x xo h => by
      rw [mE_not] at h; split at h
      · exact s_not ((all_ok a).1 _ _ _ _ _ _ xo h)
      · cases h), fun k W X sc osc x xo h => by
      rw [mC_not] at h; split at h
      · exact ⟨c_not (mC_nn h) ((all_ok a).2 _ _ _ _ _ _ xo h).1, fun z => nomatch z⟩
      · cases h⟩
  | .cmp o a b => ⟨(fun k W X sc osc x xo h => by
      rw [mE_cmp] at h; split at h
      · simp only [Bool.and_eq_true, decide_eq_true_eq] at h
        obtain ⟨⟨⟨h1, h2⟩, h3⟩, h4⟩ := h
        subst h1
        exact s_cmp xo ((all_ok a).1 _ _ _ _ _ _ xo h3) ((all_ok b).1 _ _ _ _ _ _ xo h4) h2
      · cases h), fun k W X sc osc x xo h => by
      rw [mC_cmp] at h; split at h
      · simp only [Bool.and_eq_true, decide_eq_true_eq] at h
        obtain ⟨⟨⟨h1, h2⟩, h3⟩, h4⟩ := h
        subst h1
        exact ⟨c_cmp xo ((all_ok a).1 _ _ _ _ _ _ xo h3) ((all_ok b).1 _ _ _ _ _ _ xo h4) h2, fun z => nomatch z⟩
      · cases h⟩
  | .chain o o' a b d => ⟨(fun k W X sc osc x xo h => by
      rw [mE_chain] at h; split at h
      · simp only [Bool.and_eq_true, decide_eq_true_eq] at h
        obtain ⟨⟨⟨⟨⟨h1, h2⟩, h3⟩, h4⟩, h5⟩, h6⟩ := h
        subst h1
        subst h2
        exact s_chain xo ((all_ok a).1 _ _ _ _ _ _ xo h4) ((all_ok b).1 _ _ _ _ _ _ xo h5) ((all_ok d).1 _ _ _ _ _ _ xo h6) h3
      · cases h), fun k W X sc osc x xo h => by
      rw [mC_chain] at h; split at h
      · simp only [Bool.and_eq_true, decide_eq_true_eq] at h
        obtain ⟨⟨⟨⟨⟨h1, h2⟩, h3⟩, h4⟩, h5⟩, h6⟩ := h
        subst h1
        subst h2
        exact ⟨c_chain xo ((all_ok a).1 _ _ _ _ _ _ xo h4) ((all_ok b).1 _ _ _ _ _ _ xo h5) ((all_ok d).1 _ _ _ _ _ _ xo h6) h3, fun z => nomatch z⟩
      · cases h⟩
  | .and a b => ⟨(fun k W X sc osc x xo h => by
      rw [mE_and] at h; split at h
      · rw [Bool.and_eq_true] at h
        obtain ⟨h1, h2⟩ := h
        split at h2
        · exact s_and ((all_ok a).1 _ _ _ _ _ _ xo h1) (pe_one ((all_ok b).1 _ _ _ _ _ _ xo h2))
        · exact s_and ((all_ok a).1 _ _ _ _ _ _ xo h1) ((all_ok b).1 _ _ _ _ _ _ xo h2)
      · cases h), fun k W X sc osc x xo h => by
      rw [mC_and] at h; split at h
      · rw [Bool.and_eq_true] at h
        obtain ⟨h1, h2⟩ := h
        split at h2
        · exact both (w_and (mC_nn h1) (mC_nn h2) ((all_ok a).2 _ _ _ _ _ _ xo h1).1 (pw_and1 ((all_ok b).2 _ _ _ _ _ _ xo h2).1))
        · exact both (w_and (mC_nn h1) (mC_nn h2) ((all_ok a).2 _ _ _ _ _ _ xo h1).1 (((all_ok b).2 _ _ _ _ _ _ xo h2).2 rfl))
      · cases h⟩
  | .or a b => ⟨(fun k W X sc osc x xo h => by
      rw [mE_or] at h; split at h
      · rw [Bool.and_eq_true] at h
        obtain ⟨h1, h2⟩ := h
        split at h2
        · exact s_or ((all_ok a).1 _ _ _ _ _ _ xo h1) (pe_one ((all_ok b).1 _ _ _ _ _ _ xo h2))
        · exact s_or ((all_ok a).1 _ _ _ _ _ _ xo h1) ((all_ok b).1 _ _ _ _ _ _ xo h2)
      · cases h), fun k W X sc osc x xo h => by
      rw [mC_or] at h; split at h
      · rw [Bool.and_eq_true] at h
        obtain ⟨h1, h2⟩ := h
        split at h2
        · exact both (w_or (mC_nn h1) (mC_nn h2) ((all_ok a).2 _ _ _ _ _ _ xo h1).1 (pw_or1 ((all_ok b).2 _ _ _ _ _ _ xo h2).1))
        · exact both (w_or (mC_nn h1) (mC_nn h2) ((all_ok a).2 _ _ _ _ _ _ xo h1).1 (((all_ok b).2 _ _ _ _ _ _ xo h2).2 rfl))
      · cases h⟩
  | .ite d a b => ⟨(fun k W X sc osc x xo h => by
      rw [mE_ite] at h; split at h
      · simp only [Bool.and_eq_true] at h
        obtain ⟨⟨h1, h2⟩, h3⟩ := h
        exact s_ite (mC_nn h1) ((all_ok d).2 _ _ _ _ _ _ xo h1).1 ((all_ok a).1 _ _ _ _ _ _ xo h2) ((all_ok b).1 _ _ _ _ _ _ xo h3)
      · cases h), fun k W X sc osc x xo h => nomatch (show false = true from h)⟩
  | .tup es => ⟨(fun k W X sc osc x xo h => by
      rw [mE_tup] at h; split at h
      · exact s_tup (exs_ok es _ _ _ _ _ _ xo h)
      · cases h), fun k W X sc osc x xo h => nomatch (show false = true from h)⟩
  | .lst es => ⟨(fun k W X sc osc x xo h => by
      rw [mE_lst] at h; split at h
      · exact s_lst (exs_ok es _ _ _ _ _ _ xo h)
      · cases h), fun k W X sc osc x xo h => nomatch (show false = true from h)⟩
  | .idx a i => by
      have e : GE tb c N (.idx a i) := fun k W X sc osc x xo h => by
        rw [mE_idx] at h; split at h
        · simp only [Bool.and_eq_true] at h
          obtain ⟨⟨h1, h2⟩, h3⟩ := h
          exact s_idx h1 ((all_ok a).1 _ _ _ _ _ _ xo h2) ((all_ok i).1 _ _ _ _ _ _ xo h3)
        · cases h
      refine ⟨e, fun k W X sc osc x xo h => ?_⟩
      rw [mC_idx] at h; split at h
      · exact ⟨c_val (fun z => nomatch z) (e k W X sc osc _ xo (by rw [mE_idx]; exact h)) (fun _ => rfl), fun z => nomatch z⟩
      · cases h
  | .slk n a lo hi => ⟨(fun k W X sc osc x xo h => by
      rw [mE_slk] at h; split at h
      · simp only [Bool.and_eq_true, decide_eq_true_eq] at h
        obtain ⟨⟨⟨⟨hj, hk⟩, h1⟩, h2⟩, h3⟩ := h
        subst hj
        refine s_slk hk ((all_ok a).1 _ _ _ _ _ _ xo h1) ?_ ?_
        · split at h2
          · rw [isNil_of h2]; exact o_none
          · exact o_some (mE_nn h2) ((all_ok lo).1 _ _ _ _ _ _ xo h2)
        · split at h3
          · rw [isNil_of h3]; exact o_none
          · exact o_some (mE_nn h3) ((all_ok hi).1 _ _ _ _ _ _ xo h3)
      · cases h), fun k W X sc osc x xo h => nomatch (show false = true from h)⟩
  | .slc a lo hi => ⟨(fun k W X sc osc x xo h => by
      rw [mE_slc] at h; split at h
      · simp only [Bool.and_eq_true] at h
        obtain ⟨⟨h1, h2⟩, h3⟩ := h
        refine s_slc ((all_ok a).1 _ _ _ _ _ _ xo h1) ?_ ?_
        · split at h2
          · rw [isNil_of h2]; exact o_none
          · exact o_some (mE_nn h2) ((all_ok lo).1 _ _ _ _ _ _ xo h2)
        · split at h3
          · rw [isNil_of h3]; exact o_none
          · exact o_some (mE_nn h3) ((all_ok hi).1 _ _ _ _ _ _ xo h3)
      · cases h), fun k W X sc osc x xo h => nomatch (show false = true from h)⟩
  | .rev a => ⟨(fun k W X sc osc x xo h => by
      rw [mE_rev] at h; split at h
      · rw [Bool.and_eq_true, decide_eq_true_eq] at h
        obtain ⟨h1, h2⟩ := h
        subst h1
        exact s_rev ((all_ok a).1 _ _ _ _ _ _ xo h2)
      · cases h), fun k W X sc osc x xo h => nomatch (show false = true from h)⟩
  | .call f es => by
      have e : GE tb c N (.call f es) := fun k W X sc osc x xo h => by
        rw [mE_call] at h; split at h
        · simp only [Bool.and_eq_true, decide_eq_true_eq] at h
          obtain ⟨⟨h1, h2⟩, h3⟩ := h
          cases hd : tb.fns[f]? with
          | none => rw [hd] at h1; cases h1
          | some d =>
            rw [hd] at h1
            cases h1
            exact s_call xo hd h2 (hl f d hd) (exs_ok es _ _ _ _ _ _ xo h3) (mEs_star h3)
        · cases h
      refine ⟨e, fun k W X sc osc x xo h => ?_⟩
      rw [mC_call] at h; split at h
      · exact ⟨c_val (fun z => nomatch z) (e k W X sc osc _ xo (by rw [mE_call]; exact h)) (fun _ => rfl), fun z => nomatch z⟩
      · cases h
  | .cald f es => ⟨(fun k W X sc osc x xo h => by
        rw [mE_cald] at h; split at h
        · simp only [Bool.and_eq_true, decide_eq_true_eq] at h
          obtain ⟨⟨⟨h1, h2⟩, h4⟩, h3⟩ := h
          cases hd : tb.fns[f]? with
          | none => rw [hd] at h1; cases h1
          | some d =>
            rw [hd] at h1 h4
            cases h1
            exact s_cald xo hd h4 h2 (hl f d hd) (exs_ok es _ _ _ _ _ _ xo h3) (mEs_star h3)
        · cases h), fun k W X sc osc x xo h => nomatch (show false = true from h)⟩
  | .bi b es => by
      have e : GE tb c N (.bi b es) := fun k W X sc osc x xo h => by
        rw [mE_bi] at h; split at h
        · simp only [Bool.and_eq_true] at h
          obtain ⟨⟨h1, h2⟩, h3⟩ := h
          exact s_bi xo h1 h2 (exs_ok es _ _ _ _ _ _ xo h3) (mEs_star h3)
        · cases h
      refine ⟨e, fun k W X sc osc x xo h => ?_⟩
      rw [mC_bi] at h; split at h
      · exact ⟨c_val (fun z => nomatch z) (e k W X sc osc _ xo (by rw [mE_bi]; exact h)) (fun _ => rfl), fun z => nomatch z⟩
      · cases h
  | .isi t a => by
      have e : GE tb c N (.isi t a) := fun k W X sc osc x xo h => by
        rw [mE_isi] at h; split at h
        · simp only [Bool.and_eq_true] at h
          obtain ⟨⟨⟨h1, h2⟩, h3⟩, h4⟩ := h
          exact s_isi xo h1 h4 h2 ((all_ok a).1 _ _ _ _ _ _ xo h3)
        · cases h
      refine ⟨e, fun k W X sc osc x xo h => ?_⟩
      rw [mC_isi] at h; split at h
      · exact ⟨c_val (fun z => nomatch z) (e k W X sc osc _ xo (by rw [mE_isi]; exact h)) (fun _ => rfl), fun z => nomatch z⟩
      · cases h
  | .lrg1 a => ⟨(fun k W X sc osc x xo h => by
      rw [mE_lrg1] at h; split at h
      · simp only [Bool.and_eq_true] at h
        obtain ⟨⟨⟨h1, h2⟩, h3⟩, h4⟩ := h
        exact s_lrg1 xo h1 h2 h3 ((all_ok a).1 _ _ _ _ _ _ xo h4)
      · cases h), fun k W X sc osc x xo h => nomatch (show false = true from h)⟩
  | .lrg2 a b => ⟨(fun k W X sc osc x xo h => by
      rw [mE_lrg2] at h; split at h
      · simp only [Bool.and_eq_true] at h
        obtain ⟨⟨⟨⟨⟨h1, h2⟩, h3⟩, h4⟩, h5⟩, h6⟩ := h
        exact s_lrg2 xo h1 h2 h3 h4 ((all_ok a).1 _ _ _ _ _ _ xo h5) ((all_ok b).1 _ _ _ _ _ _ xo h6)
      · cases h), fun k W X sc osc x xo h => nomatch (show false = true from h)⟩
  | .ind i b => ⟨(fun k W X sc osc x xo h => by
      rw [mE_ind] at h; split at h
      · simp only [Bool.and_eq_true, decide_eq_true_eq] at h
        obtain ⟨⟨⟨⟨h1, h2⟩, h3⟩, h4⟩, h5⟩ := h
        subst h1
        exact s_ind xo h2 h3 ((all_ok b).1 _ _ _ _ _ _ xo h4) h5
      · cases h), fun k W X sc osc x xo h => nomatch (show false = true from h)⟩
  | .comp p it d e => ⟨(fun k W X sc osc x xo h => by
      rw [mE_comp] at h; split at h
      · simp only [Bool.and_eq_true, decide_eq_true_eq] at h
        obtain ⟨⟨⟨⟨⟨⟨⟨h1, h2⟩, h3⟩, h4⟩, h5⟩, h6⟩, h7⟩, h8⟩ := h
        subst h1
        refine s_comp xo (it_ok it _ _ _ _ _ _ _ xo h2 h3) h5 h6 h4 (fun X' x' => ?_) fun X' x' => (all_ok e).1 _ _ _ _ _ _ x' h8
        split at h7
        · rw [isNil_of h7]; exact ts_nil
        · exact pts_one ((all_ok d).2 _ _ _ _ _ _ x' h7).1
        · cases h7
      · cases h), fun k W X sc osc x xo h => nomatch (show false = true from h)⟩
  | .comp2 p it q it2 d e => ⟨(fun k W X sc osc x xo h => by
      rw [mE_comp2] at h; split at h
      · simp only [Bool.and_eq_true, decide_eq_true_eq] at h
        obtain ⟨⟨⟨⟨⟨⟨⟨⟨⟨⟨⟨⟨⟨h1, h1'⟩, h0⟩, h2⟩, h3⟩, h4⟩, h5⟩, h6⟩, g2⟩, g3⟩, g4⟩, g6⟩, h7⟩, h8⟩ := h
        subst h1
        subst h1'
        rw [List.isEmpty_iff] at h0
        subst h0
        refine s_comp2 xo (it_ok it _ _ _ _ _ _ _ xo h2 h3) h5 h6 g6 h4 g4 (fun X' x' => it_ok it2 _ _ _ _ _ _ _ x' g2 g3) (fun X' x' => ?_) fun X' x' => (all_ok e).1 _ _ _ _ _ _ x' h8
        split at h7
        · rw [isNil_of h7]; exact ts_nil
        · exact pts_one ((all_ok d).2 _ _ _ _ _ _ x' h7).1
        · cases h7
      · cases h), fun k W X sc osc x xo h => nomatch (show false = true from h)⟩
  | .nil => ⟨(fun k W X sc osc x xo h => nomatch (show false = true from h)), fun k W X sc osc x xo h => nomatch (show false = true from h)⟩
theorem exs_ok : (es : Exs) → GA tb c N es
  | .nil => fun k W X sc osc xs xo h => by
      rw [mEs_nil, List.isEmpty_iff] at h
      subst h
      exact a_nil
  | .cons e es => fun k W X sc osc xs xo h => by
      rw [mEs_cons] at h; split at h
      · simp only [Bool.and_eq_true] at h
        obtain ⟨⟨h1, h2⟩, h3⟩ := h
        exact a_cons h1 ((all_ok e).1 _ _ _ _ _ _ xo h2) (exs_ok es _ _ _ _ _ _ xo h3)
      · cases h
theorem it_ok : (it : It) → GI tb c N it
  | .of a => fun k W X sc osc tg x xo h ht => by
      rw [mI_of] at h
      exact i_of ((all_ok a).1 _ _ _ _ _ _ xo h)
  | .rng1 a => fun k W X sc osc tg x xo h ht => by
      rw [mI_rng1] at h; split at h
      · simp only [Bool.and_eq_true] at h
        obtain ⟨⟨h1, h2⟩, h3⟩ := h
        exact i_rng1 xo h1 h2 ((all_ok a).1 _ _ _ _ _ _ xo h3)
      · cases h
  | .rng2 a b => fun k W X sc osc tg x xo h ht => by
      rw [mI_rng2] at h; split at h
      · simp only [Bool.and_eq_true] at h
        obtain ⟨⟨⟨⟨h1, h2⟩, h3⟩, h4⟩, h5⟩ := h
        exact i_rng2 xo h1 h2 h3 ((all_ok a).1 _ _ _ _ _ _ xo h4) ((all_ok b).1 _ _ _ _ _ _ xo h5)
      · cases h
  | .enum a => fun k W X sc osc tg x xo h ht => by
      rw [mI_enum] at h; split at h
      · simp only [Bool.and_eq_true] at h
        obtain ⟨⟨h1, h2⟩, h3⟩ := h
        cases tg <;> first | exact i_enum xo h1 h2 ((all_ok a).1 _ _ _ _ _ _ xo h3) | cases ht
      · cases h
  | .zip a b => fun k W X sc osc tg x xo h ht => by
      rw [mI_zip] at h; split at h
      · simp only [Bool.and_eq_true] at h
        obtain ⟨⟨⟨⟨h1, h2⟩, h3⟩, h4⟩, h5⟩ := h
        cases tg <;> first | exact i_zip xo h1 h2 h3 ((all_ok a).1 _ _ _ _ _ _ xo h4) ((all_ok b).1 _ _ _ _ _ _ xo h5) | cases ht
      · cases h
end
end
end Jr

/-! What stands in an except clause; text * number. -/
namespace Jr
open PySem PySem.Spec PyProof.Rows L2

/-! ### syntax -/
section
variable (tb : Tb) (N : List Str) (sc : Scope) (nm : Option Nat)
def mHb : Hb → Expr → Bool
  | .isi y, e => match e with
    | .Call (.Name f _) [.Name n _, .Name z _] [] _ => biB tb sc "isinstance" f && decide (z = y) && glB sc z && (match nm with
      | some i => varB N sc i n
      | none => false)
    | _ => false
  | .not a, e => match e with
    | .UnaryOp .Not x _ => mHb a x
    | _ => false
  | .and a b, e => match e with
    | .BoolOp .And (x :: y :: r) pos => mHb a x && (match r with
      | [] => mHb b y
      | _ => mHb b (.BoolOp .And (y :: r) pos))
    | _ => false
  | .or a b, e => match e with
    | .BoolOp .Or (x :: y :: r) pos => mHb a x && (match r with
      | [] => mHb b y
      | _ => mHb b (.BoolOp .Or (y :: r) pos))
    | _ => false
theorem mHb_isi {y e} : mHb tb N sc nm (.isi y) e = (match e with
    | .Call (.Name f _) [.Name n _, .Name z _] [] _ => biB tb sc "isinstance" f && decide (z = y) && glB sc z && (match nm with
      | some i => varB N sc i n
      | none => false)
    | _ => false) := rfl
theorem mHb_not {a e} : mHb tb N sc nm (.not a) e = (match e with
    | .UnaryOp .Not x _ => mHb tb N sc nm a x
    | _ => false) := rfl
theorem mHb_and {a b e} : mHb tb N sc nm (.and a b) e = (match e with
    | .BoolOp .And (x :: y :: r) pos => mHb tb N sc nm a x && (match r with
      | [] => mHb tb N sc nm b y
      | _ => mHb tb N sc nm b (.BoolOp .And (y :: r) pos))
    | _ => false) := rfl
theorem mHb_or {a b e} : mHb tb N sc nm (.or a b) e = (match e with
    | .BoolOp .Or (x :: y :: r) pos => mHb tb N sc nm a x && (match r with
      | [] => mHb tb N sc nm b y
      | _ => mHb tb N sc nm b (.BoolOp .Or (y :: r) pos))
    | _ => false) := rfl
def strB (s : Str) : Expr → Bool
  | .Constant (.str z) _ _ => decide (s = z)
  | _ => false
/-- int(b) -/
def mHi (b : Hb) : Expr → Bool
  | .Call (.Name f _) [x] [] _ => biB tb sc "int" f && notStar x && mHb tb N sc nm b x
  | _ => false
def mHv : Hv → Expr → Bool
  | .str s, e => strB s e
  | .mul s b, e => match e with
    | .BinOp x .Mult y _ => strB s x && mHi tb N sc nm b y
    | _ => false
  | .pick s t b, e => match e with
    | .Subscript (.List [x, y] _) z _ => notSlice z && strB s x && strB t y && mHi tb N sc nm b z
    | _ => false
  | .tst b, e => mHb tb N sc nm b e
theorem mHv_mul {s b e} : mHv tb N sc nm (.mul s b) e = (match e with
    | .BinOp x .Mult y _ => strB s x && mHi tb N sc nm b y
    | _ => false) := rfl
theorem mHv_pick {s t b e} : mHv tb N sc nm (.pick s t b) e = (match e with
    | .Subscript (.List [x, y] _) z _ => notSlice z && strB s x && strB t y && mHi tb N sc nm b z
    | _ => false) := rfl
theorem mHv_tst {b e} : mHv tb N sc nm (.tst b) e = mHb tb N sc nm b e := rfl
theorem mHv_str {s e} : mHv tb N sc nm (.str s) e = strB s e := rfl
def mHd (h : Hd) : ExceptHandler → Bool
  | .ExceptHandler (some (.Name x _)) n [.Return (some e) _] _ => decide (x = h.cls) && decide (x ∈ tb.exs) && glB sc x && mHv tb N sc h.nm h.val e && (match n, h.nm with
    | none, none => true
    | some y, some i => decide (N[i]? = some y) && decide (sc.names.lookup y = some .local)
    | _, _ => false)
  | _ => false
def mHds : List Hd → List ExceptHandler → Bool
  | [], [] => true
  | h :: hs, e :: es => mHd tb N sc h e && mHds hs es
  | _, _ => false
end
/-- what the clauses make of an exception of the class x -/
def hdsV (tb : Tb) (x : Str) : List Hd → Option (Option Tr)
  | [] => some none
  | h :: hs => match tb.exm.lookup (x, h.cls) with
    | some true => (h.val.val fun y => tb.kit.lookup (x, y)).map some
    | some false => hdsV tb x hs
    | none => none
def trB : Option Tr → Option Tr → Bool
  | none, none => true
  | some (.str a), some (.str b) => decide (a = b)
  | some (.bl a), some (.bl b) => a == b
  | _, _ => false
theorem trB_ok {a b : Option Tr} (h : trB a b = true) : a = b := by
  unfold trB at h
  split at h
  · rfl
  · rw [of_decide_eq_true h]
  · rw [eq_of_beq h]
  · cases h
def tblB (tb : Tb) (hs : List Hd) (tbl : List (Str × Option Tr)) : Bool := tbl.all fun p => decide (p.1 ∈ tb.exs) && (match hdsV tb p.1 hs with
  | some o => trB o p.2
  | none => false)

/-! ### text * number -/
section
variable {X : Cx}
theorem op_mul_str : OpR X (binaryOp .Mult) (fun x y H Q => ∃ z b, x = .str z ∧ y = .int (if b = true then 1 else 0) ∧ Q (.str (if b = true then z else Str.empty)) H) := by
  rintro pins s σ H x y v u Q I rx ry ⟨z, b, rfl, rfl, q⟩
  obtain ⟨t1, rfl⟩ := rx
  obtain ⟨t2, rfl⟩ := ry
  refine PySem.SB.mul ?_ fun t' k => ?_
  · cases b with
    | true => exact ⟨by decide, fun _ z => absurd z (by simp), fun _ z => absurd z (by simp)⟩
    | false => exact ⟨by decide, fun h => absurd (by decide : (0 : Int) < 1) h, fun h => absurd (by decide : (0 : Int) < 1) h⟩
  · have e : Txt.mul z (if b = true then 1 else 0) = if b = true then z else Str.empty := by
      cases b <;> rfl
    exact ⟨.str (if b = true then z else Str.empty), H, I.tok k, ⟨t', by rw [e]⟩, q⟩
theorem pe_false {e : Expr} : PE X e fun _ _ _ => False := ⟨fun _ _ _ _ _ _ h => h.elim⟩
end

/-! ### within a suite -/
section
variable {tb : Tb} {c : Ctx} {k : Nat} {N : List Str} {W : WX} {X : Cx} {sc osc : Scope}
/-- a test's reading -/
def rdHb (f : Str → Option Bool) (nm : Option Nat) (a : Addr) (b : Hb) : TE := fun σ H Q => (∀ i, nm = some i → σ[i]? = some (some (.ref a))) ∧ ∃ t, b.val f = some t ∧ Q (.bl t) H
theorem hb_ok (x : XOk tb c k N W X sc osc) {xn : Str} {C : Addr} (F : ExF X.K X.mg xn C) {a : Addr} {oe : Obj} {pn : List (Addr × Obj)} (hz : Zc (.ref C) none oe) (hf : ∃ vs, oe.data = .fields vs) {nm : Option Nat} :
    ∀ (b : Hb) {e : Expr}, mHb tb N sc nm b e = true → PE (X.suite a ((a, oe) :: pn)) e (rdHb (fun y => tb.kit.lookup (xn, y)) nm a b)
  | .isi y, e, h => by
    rw [mHb_isi] at h; split at h
    · simp only [Bool.and_eq_true, decide_eq_true_eq] at h
      obtain ⟨⟨⟨h1, h2⟩, h3⟩, h4⟩ := h
      have h2 := h2.symm
      subst h2
      cases hk : tb.kit.lookup (xn, y) with
      | none =>
        refine pe_false.to fun σ H Q ⟨_, t, e, _⟩ => ?_
        have e' : tb.kit.lookup (xn, y) = some t := e
        rw [hk] at e'
        cases e'
      | some b =>
        obtain ⟨v, u, hm, rv, uq, hq⟩ := x.kit _ _ _ hk
        obtain ⟨e1, hg, hdb, hmi⟩ := biB_of x h1
        subst e1
        obtain ⟨hgy, hdy⟩ := x.glob h3
        have py : ∀ pz, PE (X.suite a ((a, oe) :: pn)) (.Name y pz) (tC v) := fun pz => by
          rcases hm with hm | ⟨hm, hv, hn⟩
          · exact pe_glob hgy hm rv hdy
          · exact pe_bltn hgy hm hv rv hn hdy
        cases nm with
        | none => cases h4
        | some i =>
          unfold varB at h4
          simp only [Bool.and_eq_true, decide_eq_true_eq] at h4
          have pv := fun pz => pe_var (X := X.suite a ((a, oe) :: pn)) (pos := pz) (i := i) (by show X.N[i]? = _; rw [x.hN]; exact h4.1.1.1) (x.vis h4.1.1.2) (by simpa using h4.1.2) (by simpa using h4.2)
          refine (pe_callB (X := X.suite a ((a, oe) :: pn)) (call_isE F.e hz hf) hg (hmi.trans rfl) (by decide +kernel) (pa_cons (pv _) (pa_cons (py _) pa_nil)) (by decide) hdb).to fun σ H Q ⟨hs, t, et, q⟩ => ?_
          have et : tb.kit.lookup (xn, y) = some t := et
          rw [hk] at et
          cases et
          exact ⟨.ref a, hs i rfl, v, u, b, rfl, uq, hq C F.g, q⟩
    · cases h
  | .not b, e, h => by
    rw [mHb_not] at h; split at h
    · refine (pe_not (hb_ok x F hz hf b h)).to fun σ H Q ⟨hs, t, et, q⟩ => ?_
      have et : (b.val _).map (!·) = some t := et
      cases eb : b.val fun y => tb.kit.lookup (xn, y) with
      | none => rw [eb] at et; cases et
      | some r =>
        rw [eb] at et
        cases et
        exact ⟨hs, r, eb, r, rfl, q⟩
    · cases h
  | .and a' b, e, h => by
    rw [mHb_and] at h; split at h
    · rw [Bool.and_eq_true] at h
      obtain ⟨h1, h2⟩ := h
      have fin : ∀ {z : Expr} {zs : List Expr} {pos : Pos} {x0 : Expr}, PE (X.suite a ((a, oe) :: pn)) x0 (rdHb (fun y => tb.kit.lookup (xn, y)) nm a a') → PE (X.suite a ((a, oe) :: pn)) (.BoolOp .And (z :: zs) pos) (rdHb (fun y => tb.kit.lookup (xn, y)) nm a b) →
          PE (X.suite a ((a, oe) :: pn)) (.BoolOp .And (x0 :: z :: zs) pos) (rdHb (fun y => tb.kit.lookup (xn, y)) nm a (.and a' b)) := fun p1 p2 => by
        refine (pe_and p1 p2).to fun σ H Q ⟨hs, t, et, q⟩ => ?_
        have et : (match a'.val fun y => tb.kit.lookup (xn, y) with
          | some true => b.val fun y => tb.kit.lookup (xn, y)
          | o => o) = some t := et
        cases ea : a'.val fun y => tb.kit.lookup (xn, y) with
        | none => rw [ea] at et; cases et
        | some r =>
          rw [ea] at et
          refine ⟨hs, r, ea, r, rfl, ?_⟩
          cases r with
          | true => exact iteT ⟨hs, t, et, q⟩
          | false => cases et; exact iteF q
      split at h2
      · exact fin (hb_ok x F hz hf a' h1) (pe_one (hb_ok x F hz hf b h2))
      · exact fin (hb_ok x F hz hf a' h1) (hb_ok x F hz hf b h2)
    · cases h
  | .or a' b, e, h => by
    rw [mHb_or] at h; split at h
    · rw [Bool.and_eq_true] at h
      obtain ⟨h1, h2⟩ := h
      have fin : ∀ {z : Expr} {zs : List Expr} {pos : Pos} {x0 : Expr}, PE (X.suite a ((a, oe) :: pn)) x0 (rdHb (fun y => tb.kit.lookup (xn, y)) nm a a') → PE (X.suite a ((a, oe) :: pn)) (.BoolOp .Or (z :: zs) pos) (rdHb (fun y => tb.kit.lookup (xn, y)) nm a b) →
          PE (X.suite a ((a, oe) :: pn)) (.BoolOp .Or (x0 :: z :: zs) pos) (rdHb (fun y => tb.kit.lookup (xn, y)) nm a (.or a' b)) := fun p1 p2 => by
        refine (pe_or p1 p2).to fun σ H Q ⟨hs, t, et, q⟩ => ?_
        have et : (match a'.val fun y => tb.kit.lookup (xn, y) with
          | some false => b.val fun y => tb.kit.lookup (xn, y)
          | o => o) = some t := et
        cases ea : a'.val fun y => tb.kit.lookup (xn, y) with
        | none => rw [ea] at et; cases et
        | some r =>
          rw [ea] at et
          refine ⟨hs, r, ea, r, rfl, ?_⟩
          cases r with
          | false => exact iteF ⟨hs, t, et, q⟩
          | true => cases et; exact iteT q
      split at h2
      · exact fin (hb_ok x F hz hf a' h1) (pe_one (hb_ok x F hz hf b h2))
      · exact fin (hb_ok x F hz hf a' h1) (hb_ok x F hz hf b h2)
    · cases h
/-- int(b) -/
theorem hi_ok (x : XOk tb c k N W X sc osc) {xn : Str} {C : Addr} (F : ExF X.K X.mg xn C) {a : Addr} {oe : Obj} {pn : List (Addr × Obj)} (hz : Zc (.ref C) none oe) (hf : ∃ vs, oe.data = .fields vs) {nm : Option Nat} {b : Hb} {e : Expr} (h : mHi tb N sc nm b e = true) :
    PE (X.suite a ((a, oe) :: pn)) e (fun σ H Q => (∀ i, nm = some i → σ[i]? = some (some (.ref a))) ∧ ∃ t, (b.val fun y => tb.kit.lookup (xn, y)) = some t ∧ Q (.int (if t = true then 1 else 0)) H) := by
  unfold mHi at h; split at h
  · simp only [Bool.and_eq_true] at h
    obtain ⟨⟨h1, h2⟩, h3⟩ := h
    obtain ⟨e1, hg, hdb, hmi⟩ := biB_of x h1
    subst e1
    refine (pe_callTy (X := X.suite a ((a, oe) :: pn)) call_int1 hg (hmi.trans rfl) (by decide +kernel) (pa_cons (hb_ok x F hz hf b h3) pa_nil (star_cons h2)) (by decide) hdb (star_cons h2)).to fun σ H Q ⟨hs, t, et, q⟩ => ?_
    exact ⟨hs, t, et, .inr ⟨t, rfl, q⟩⟩
  · cases h
/-- what the suite hands back -/
def rdHv (f : Str → Option Bool) (K : PySem.W.Frag) (nm : Option Nat) (a : Addr) (v : Hv) : TE := fun σ H Q => (∀ i, nm = some i → σ[i]? = some (some (.ref a))) ∧ ∃ t, v.val f = some t ∧ ∀ H' w, Same H H' → (∀ O, Rp K H' O w t) → notLst t = true → Q w H'
theorem strB_ok {s : Str} {e : Expr} {Y : Cx} (h : strB s e = true) : PE Y e (tC (.str s)) := by
  unfold strB at h; split at h
  · rw [of_decide_eq_true h]
    exact pe_str
  · cases h
theorem strB_star {s : Str} {e : Expr} (h : strB s e = true) : notStar e = true := by
  cases e <;> first | rfl | cases h
theorem map_some {α β : Type} {o : Option α} {g : α → β} {b : β} (h : o.map g = some b) : ∃ a, o = some a ∧ g a = b := by
  cases o with
  | none => cases h
  | some a => exact ⟨a, rfl, by cases h; rfl⟩
theorem hv_ok (x : XOk tb c k N W X sc osc) {xn : Str} {C : Addr} (F : ExF X.K X.mg xn C) {a : Addr} {oe : Obj} {pn : List (Addr × Obj)} (hz : Zc (.ref C) none oe) (hf : ∃ vs, oe.data = .fields vs) {nm : Option Nat} {v : Hv} {e : Expr} (h : mHv tb N sc nm v e = true) :
    PE (X.suite a ((a, oe) :: pn)) e (rdHv (fun y => tb.kit.lookup (xn, y)) X.K nm a v) := by
  cases v with
  | str s =>
    rw [mHv_str] at h
    refine (strB_ok h).to fun σ H Q ⟨_, t, et, q⟩ => ?_
    cases et
    exact q H _ (Same.refl H) (fun _ => .str _) rfl
  | mul s b =>
    rw [mHv_mul] at h; split at h
    · rw [Bool.and_eq_true] at h
      refine (pe_op (X := X.suite a ((a, oe) :: pn)) op_mul_str (strB_ok h.1) (hi_ok x F hz hf h.2)).to fun σ H Q ⟨hs, t, et, q⟩ => ?_
      obtain ⟨r, e1, rfl⟩ := map_some et
      exact ⟨hs, r, e1, s, r, rfl, rfl, q H _ (Same.refl H) (fun _ => .str _) rfl⟩
    · cases h
  | pick s u b =>
    rw [mHv_pick] at h; split at h
    · simp only [Bool.and_eq_true] at h
      obtain ⟨⟨⟨h1, h2⟩, h3⟩, h4⟩ := h
      refine (pe_ix (X := X.suite a ((a, oe) :: pn)) idx_ok (pe_lst (pa_cons (strB_ok h2) (pa_cons (strB_ok h3) pa_nil (star_cons (strB_star h3))) (star_cons (strB_star h2)))) (hi_ok x F hz hf h4) (plainIx h1)).to fun σ H Q ⟨hs, t, et, q⟩ => ?_
      obtain ⟨r, e1, rfl⟩ := map_some et
      refine ⟨by show 2 ≤ sizeLine; rw [sizeLine_eq]; omega, fun p hp => ⟨hs, r, e1, ?_⟩⟩
      refine ⟨fun _ => False, .lst [.str s, .str u], .int (if r = true then 1 else 0), .str (if r = true then u else s), .lst upd_same (.cons (.str _) (.cons (.str _) .nil)), .int _, by cases r <;> rfl, fun w rp => ?_⟩
      exact q _ w (same_new hp) (fun O => rp.im rfl) rfl
    · cases h
  | tst b =>
    rw [mHv_tst] at h
    refine (hb_ok x F hz hf b h).to fun σ H Q ⟨hs, t, et, q⟩ => ?_
    obtain ⟨r, e1, rfl⟩ := map_some et
    exact ⟨hs, r, e1, q H _ (Same.refl H) (fun _ => .bl _) rfl⟩
end
/-! ### try, with clauses that return -/
/-- the slots as the suite finds them -/
def setN (σ : L2.St) (o : Option Nat) (a : Addr) : L2.St := match o with
  | some i => σ.set i (some (.ref a))
  | none => σ
abbrev Cl : Type := Value × Option Nat × (Addr → Value → Option Addr → TE)
def wHds (K : PySem.W.Frag) (Wo : WX) (R : VK) : List Cl → WX
  | [] => Wo
  | q :: r => fun cls d σ H => ∃ b, PySem.W.exmOne K cls q.1 = some b ∧ (b = true → ∀ a, H a = none → q.2.2 a cls d (setN σ q.2.1 a) H R) ∧ (b = false → wHds K Wo R r cls d σ H)
inductive ClOk (X : Cx) : List ExceptHandler → List Cl → Prop
  | nil : ClOk X [] []
  | cons {x : Str} {n : Option Str} {q : Cl} {e : Expr} {p1 p2 p3 : Pos} {es : List ExceptHandler} {l : List Cl} (nam : Names X x q.1) (bnd : (n = none ∧ q.2.1 = none) ∨ ∃ y i, n = some y ∧ q.2.1 = some i ∧ X.N[i]? = some y ∧ X.env.kindOf y = some .local)
      (pe : ∀ (a : Addr) (oe : Obj) (cls : Value) (d : Option Addr) (pn : List (Addr × Obj)), Zc cls d oe → (∃ vs, oe.data = .fields vs) → PE (X.suite a ((a, oe) :: pn)) e (q.2.2 a cls d)) (r : ClOk X es l) :
      ClOk X (.ExceptHandler (some (.Name x p1)) n [.Return (some e) p2] p3 :: es) (q :: l)
section
variable {X : Cx} {B : List Stmt} {e0 : ExceptHandler} {es : List ExceptHandler} {l : List Cl} {pos : Pos} {tB : WX → TS} {Wo : WX}
theorem ps_tryR (st : X.stack = X.env :: X.outer) (fr : X.env.frame = some X.env.locals) (nd : X.N.Nodup) (tk : Takes X Wo)
    (bodyOk : ∀ (W : WX) (pn : List (Addr × Obj)) (xe : Value → Shared → Prop), Takes (X.tr pn xe) W → PassesOwn (model X.prog X.w) X.A X.env xe → PSs (X.tr pn xe) B (tB W)) (clauses : ClOk X (e0 :: es) l) :
    PS X (.Try B (e0 :: es) [] [] pos) (fun D σ H => tB (wHds X.K Wo D.rt l) D σ H) := by
  refine ⟨fun pins s σ H D I wish => ?_⟩
  have iok := I.ok
  have frames : X.A.frames = some (X.env :: X.outer) := iok.frames.trans (congrArg some st)
  apply wpAny_Try_except
  have bodyRun := (bodyOk (wHds X.K Wo D.rt l) (X.pn ++ pins) (fun e s1 => wpAny (model X.prog X.w) X.A (noteFrame e X.env) (fun _ s2 => wpAny (model X.prog X.w) X.A (setFlight e none)
    (fun _ s3 => wpAny (model X.prog X.w) X.A (handleBy e X.env (e0 :: es)) (SP X pins D) X.xe s3) X.xe s2) X.xe s1) (fun u t1 flown => ?_) PassesOwn.looking).run [] s σ H D (I.toTry _) wish
  · refine wpAny_mono bodyRun (fun fl t1 q => ?_) fun _ _ z => z
    cases fl with
    | next =>
      obtain ⟨σ1, H1, I1, q1⟩ := q
      refine wpAny_execs_nil ?_
      exact ⟨σ1, H1, I1.ofTry iok, q1⟩
    | brk => obtain ⟨σ1, H1, I1, q1⟩ := q; exact ⟨σ1, H1, Inv.ofTry I1 iok, q1⟩
    | cont => obtain ⟨σ1, H1, I1, q1⟩ := q; exact ⟨σ1, H1, Inv.ofTry I1 iok, q1⟩
    | ret u =>
      obtain ⟨v1, σ1, H1, I1, r1, q1⟩ := q
      exact ⟨v1, σ1, H1, Inv.ofTry I1 iok, r1, q1⟩
  · obtain ⟨a, G, s0, pins1, σ1, H1, cls, d, rfl, I0, nb, up0, sky, na, eos, bare, wish1⟩ := flown
    have I1 : Inv X pins σ1 H1 s0 := Inv.ofTry I0 iok
    rw [st] at sky
    show wpAny (model X.prog X.w) X.A (noteFrame (.ref a) X.env) _ _ ({ t1 with } : Shared)
    refine Sky.land Zc.steady frames fr sky fun h2 fly up2 => ?_
    have J2 : Inv X pins σ1 H1 { t1 with heap := h2 } := I1.landed nb fly.1 (up0.trans up2) eos bare
    obtain ⟨o2, w2, g2, z2, d2⟩ := fly.there
    have away : ∀ {h : Heap} {o : Obj} {ws : Array Value}, h.FunFrames G (X.env :: X.outer) → h.get? a = some o → o.data = .fields ws → a ∉ frs (X.env :: X.outer) := fun {h o ws} ff g dat hm => by
      obtain ⟨_, o1, g1, no1⟩ := ff.mem hm
      rw [g] at g1
      cases g1
      exact no1 _ dat
    have far := away fly.2.2.1 g2 d2
    have farL : a ≠ X.env.locals := fun z => far (List.mem_filterMap.mpr ⟨X.env, List.mem_cons_self, fr.trans (congrArg some z.symm)⟩)
    have farF : a ∉ X.fs := fun hm => (List.mem_filterMap.mp hm).elim fun e hq => far (List.mem_filterMap.mpr ⟨e, List.mem_cons_of_mem _ hq.1, hq.2⟩)
    have S2 := J2.suite g2 d2 na farL farF
    have go : ∀ {es1 : List ExceptHandler} {l1 : List Cl}, ClOk X es1 l1 → wHds X.K Wo D.rt l1 cls d σ1 H1 → wpAny (model X.prog X.w) X.A (handleBy (.ref a) X.env es1) (SP X pins D) X.xe { t1 with heap := h2 } := by
      intro es1 l1 ck
      induction ck with
      | nil =>
        intro w
        apply wpAny_handleBy_nil
        obtain ⟨_, _, _, o3, w3, T, oT, ts3, g3, z3, d3, at1, _⟩ := id fly
        unfold PySem.passOn
        refine wpAny_bind (wpAny_field g3 d3 at1 ?_)
        rw [if_neg (show ¬ ((Value.ref T == Value.none) = true) from nofun)]
        have thrown : wpAny (model X.prog X.w) X.A (setFlight (.ref a) X.env.frame) (fun _ s4 => wpAny (model X.prog X.w) X.A (throw (.ref a) : Sem Flow) (SP X pins D) X.xe s4) X.xe { t1 with heap := h2 } := by
          rw [fr]
          refine HandSPX.setFlight_upZ fly fun h4 fl4 up4 => wpAny_throw (tk _ _ ?_)
          exact ⟨a, G, s0, pins, σ1, H1, cls, d, rfl, I1, nb, (up0.trans up2).trans up4, .inr (.inr (st ▸ fl4)), na, eos, bare, w⟩
        first
          | exact wpAny_bind (wpAny_pure (wpAny_bind thrown))
          | exact wpAny_bind thrown
      | @cons x n q e p1 p2 p3 es2 l2 nam bnd pe r ih =>
        intro w
        obtain ⟨b, eb, yes, no⟩ := w
        refine wpAny_handleBy_cons (codeAny_handlers_test ?_) nofun
        have lookT : PySem.W.Looks (model X.prog X.w) h2 (typeOf (.ref a)) cls := fun A Q E s k q => wpAny_typeOf_ref (k _ _ g2) (z2.1.symm ▸ q)
        have lookM := PySem.W.exm_one (M := model X.prog X.w) J2.kIn lookT eb
        have named : ∀ {Q : Value → Shared → Prop} {E : Value → Shared → Prop}, Q q.1 { t1 with heap := h2 } → wpAny (model X.prog X.w) (X.A.mark (some (.ref a))) (eval (.Name x p1) X.env) Q E { t1 with heap := h2 } := fun {Q E} hq => by
          obtain ⟨gl, dbg, m1 | ⟨m1, bv, nn⟩⟩ := nam
          · exact ld_glob (X := X.suite a ((a, o2) :: (X.pn ++ pins))) S2 gl m1 hq dbg
          · exact ld_blt (X := X.suite a ((a, o2) :: (X.pn ++ pins))) S2 gl m1 bv hq nn dbg
        refine named (lookM.here ?_)
        cases b with
        | false => exact ih (no rfl)
        | true =>
          have y1 := yes rfl a na
          rcases bnd with ⟨rfl, e2⟩ | ⟨y, i, rfl, e2, hi, hk⟩
          · rw [e2] at y1
            refine codeAny_handlers_suite ?_
            refine HandSPX.lands_againZ fly fun h4 fl4 up4 => ?_
            have J4 : Inv X pins σ1 H1 { t1 with heap := h4 } := I1.landed nb fl4.1 ((up0.trans up2).trans up4) eos bare
            obtain ⟨o4, w4, g4, z4, d4⟩ := fl4.there
            have S4 := J4.suite g4 d4 na farL farF
            refine wpAny_mono ((pss_one (ps_ret (pe a o4 cls d (X.pn ++ pins) z4 ⟨_, d4⟩))).run [] _ _ H1 { nx := fun _ _ => False, rt := D.rt } S4 y1) (fun f s6 hsp => ?_) fun _ _ z => z.elim
            cases f with
            | next => obtain ⟨_, _, _, z⟩ := hsp; exact z.elim
            | brk => obtain ⟨_, _, _, z⟩ := hsp; exact z.elim
            | cont => obtain ⟨_, _, _, z⟩ := hsp; exact z.elim
            | ret u =>
              obtain ⟨v9, σ9, H9, S9, r9, q9⟩ := hsp
              exact ⟨v9, σ9, H9, Inv.unsuite S9 iok, r9, q9⟩
          · rw [e2] at y1
            refine codeAny_handlers_suite_as ?_
            refine HandSPX.lands_againZ fly fun h4 fl4 up4 => ?_
            have J4 : Inv X pins σ1 H1 { t1 with heap := h4 } := I1.landed nb fl4.1 ((up0.trans up2).trans up4) eos bare
            obtain ⟨o4, w4, g4, z4, d4⟩ := fl4.there
            have S4 := J4.suite g4 d4 na farL farF
            refine store_ok (X := X.suite a ((a, o4) :: (X.pn ++ pins))) (v := .ref a) S4 nd hi (.inl hk) rfl (fun s5 S5 => ?_) (.inr hk)
            refine wpAny_mono ((pss_one (ps_ret (pe a o4 cls d (X.pn ++ pins) z4 ⟨_, d4⟩))).run [] s5 _ H1 { nx := fun _ _ => False, rt := D.rt } S5 y1) (fun f s6 hsp => ?_) fun _ _ z => z.elim
            cases f with
            | next => obtain ⟨_, _, _, z⟩ := hsp; exact z.elim
            | brk => obtain ⟨_, _, _, z⟩ := hsp; exact z.elim
            | cont => obtain ⟨_, _, _, z⟩ := hsp; exact z.elim
            | ret u =>
              obtain ⟨v9, σ9, H9, S9, r9, q9⟩ := hsp
              exact gone_ok (S9.unsuite iok) nd hi hk fun s7 J7 => ⟨v9, _, H9, J7, r9, q9⟩
    exact go clauses wish1
end
/-! ### the clauses by their terms -/
/-- a clause's reading -/
def teOf (tb : Tb) (K : PySem.W.Frag) (mg : Str → Option Value) (h : Hd) : Addr → Value → Option Addr → TE := fun a cls d σ H Q => ∃ xn C, cls = .ref C ∧ d = none ∧ ExF K mg xn C ∧ rdHv (fun y => tb.kit.lookup (xn, y)) K h.nm a h.val σ H Q
inductive HL (tb : Tb) (K : PySem.W.Frag) (mg : Str → Option Value) : List Hd → List Cl → Prop
  | nil : HL tb K mg [] []
  | cons {h : Hd} {v : Value} {hs : List Hd} {l : List Cl} : mg h.cls = some v → HL tb K mg hs l → HL tb K mg (h :: hs) ((v, h.nm, teOf tb K mg h) :: l)
section
variable {tb : Tb} {c : Ctx} {k : Nat} {N : List Str} {W : WX} {X : Cx} {sc osc : Scope}
theorem te_ok (x : XOk tb c k N W X sc osc) {h : Hd} {e : Expr} (hm : mHv tb N sc h.nm h.val e = true) (a : Addr) (oe : Obj) (cls : Value) (d : Option Addr) (pn : List (Addr × Obj)) (hz : Zc cls d oe) (hf : ∃ vs, oe.data = .fields vs) :
    PE (X.suite a ((a, oe) :: pn)) e (teOf tb X.K X.mg h a cls d) := by
  refine ⟨fun pins s0 σ H Q I hq => ?_⟩
  obtain ⟨xn, C, rfl, rfl, F, q⟩ := hq
  exact (hv_ok x F hz hf hm).run pins s0 σ H Q I q
theorem mHds_cons {h : Hd} {hs : List Hd} {e : ExceptHandler} {es : List ExceptHandler} : mHds tb N sc (h :: hs) (e :: es) = (mHd tb N sc h e && mHds tb N sc hs es) := rfl
theorem cl_ok (x : XOk tb c k N W X sc osc) : ∀ {hs : List Hd} {es : List ExceptHandler}, mHds tb N sc hs es = true → ∃ l, ClOk X es l ∧ HL tb X.K X.mg hs l
  | [], [], _ => ⟨[], .nil, .nil⟩
  | [], _ :: _, h => by cases h
  | _ :: _, [], h => by cases h
  | h :: hs, e :: es, hm => by
    rw [mHds_cons, Bool.and_eq_true] at hm
    obtain ⟨h1, h2⟩ := hm
    obtain ⟨l, k1, k2⟩ := cl_ok x h2
    unfold mHd at h1; split at h1
    · rename_i y p1 n ex p2 p3
      simp only [Bool.and_eq_true, decide_eq_true_eq] at h1
      obtain ⟨⟨⟨⟨e1, e2⟩, e3⟩, e4⟩, e5⟩ := h1
      subst e1
      obtain ⟨C, F⟩ := x.exs _ e2
      obtain ⟨g1, g2⟩ := x.glob e3
      refine ⟨(.ref C, h.nm, teOf tb X.K X.mg h) :: l, .cons ⟨g1, g2, .inl F.g⟩ ?_ (te_ok x e4) k1, .cons F.g k2⟩
      split at e5
      · exact .inl ⟨rfl, by assumption⟩
      · rename_i y i hn
        simp only [Bool.and_eq_true, decide_eq_true_eq] at e5
        exact .inr ⟨y, i, rfl, hn, by rw [x.hN]; exact e5.1, by show X.env.scope.names.lookup y = _; rw [x.hsc]; exact e5.2⟩
      · cases e5
    · cases h1
/-- the wish behind the clauses, at an exception of the class x -/
theorem wish_ok (x : XOk tb c k N W X sc osc) {xn : Str} {C : Addr} (F : ExF X.K X.mg xn C) {Wo : WX} {R : VK} {σ : L2.St} {H : Hp} {o : Option Tr} : ∀ {hs : List Hd} {l : List Cl}, HL tb X.K X.mg hs l → hdsV tb xn hs = some o → (∀ h ∈ hs, ∀ i, h.nm = some i → i < σ.length) →
    (o = none → Wo (.ref C) none σ H) → (∀ t, o = some t → ∀ H' w, Same H H' → (∀ O, Rp X.K H' O w t) → notLst t = true → R w H') → wHds X.K Wo R l (.ref C) none σ H
  | [], _, hl, hv, _, q1, _ => by
    cases hl
    cases hv
    exact q1 rfl
  | h :: hs, _, hl, hv, hb, q1, q2 => by
    cases hl with
    | cons hg hr =>
      have hv : (match tb.exm.lookup (xn, h.cls) with
        | some true => (h.val.val fun y => tb.kit.lookup (xn, y)).map some
        | some false => hdsV tb xn hs
        | none => none) = some o := hv
      cases hk : tb.exm.lookup (xn, h.cls) with
      | none => rw [hk] at hv; cases hv
      | some b =>
        rw [hk] at hv
        obtain ⟨D, hD, hq⟩ := x.exm _ _ _ hk
        rw [hD] at hg
        cases hg
        refine ⟨b, hq C F.g, fun hbt a ha => ?_, fun hbf => ?_⟩
        · subst hbt
          obtain ⟨t, e1, e2⟩ := map_some hv
          refine ⟨xn, C, rfl, rfl, F, fun i hi => ?_, t, e1, q2 t e2.symm⟩
          show (setN σ h.nm a)[i]? = _
          rw [hi]
          exact List.getElem?_set_self (hb h List.mem_cons_self i hi)
        · subst hbf
          exact wish_ok x F hr hv (fun h' hh => hb h' (List.mem_cons_of_mem _ hh)) q1 q2
theorem tbl_ok {hs : List Hd} {tbl : List (Str × Option Tr)} (h : tblB tb hs tbl = true) {xn : Str} {o : Option Tr} (e : tbl.lookup xn = some o) : xn ∈ tb.exs ∧ hdsV tb xn hs = some o := by
  have hm : (xn, o) ∈ tbl := by
    induction tbl with
    | nil => cases e
    | cons p r ih =>
      rw [List.lookup_cons] at e
      have hr : tblB tb hs r = true := by
        unfold tblB at h ⊢
        rw [List.all_cons, Bool.and_eq_true] at h
        exact h.2
      split at e
      · rename_i q
        have : xn = p.1 := by simpa using q
        cases e
        rw [this]
        exact List.mem_cons_self
      · exact List.mem_cons_of_mem _ (ih hr e)
  have h1 := List.all_eq_true.mp h _ hm
  rw [Bool.and_eq_true, decide_eq_true_eq] at h1
  refine ⟨h1.1, ?_⟩
  have h2 := h1.2
  cases q : hdsV tb xn hs with
  | none => rw [q] at h2; cases h2
  | some o' =>
    rw [q] at h2
    rw [trB_ok h2]
end
end Jr

/-! Statements: the state, the ends. -/
namespace Jr
open PySem PySem.Spec PyProof.Rows L2

section
variable {K : PySem.W.Frag} {g g1 : Gh} {σ σ' : L2.St} {ρ ρ' : Env} {H H' H1 : Hp}
theorem Rel.base {H0 : Hp} (r : Rel K g σ ρ H) (s : Same H0 g.H0) : Rel K { g with H0 := H0 } σ ρ H where
  same := s.trans r.same
  oh := r.oh
  old := r.old
  len := r.len
  len2 := r.len2
  own := fun i a e => by
    obtain ⟨h1, h2, h3⟩ := r.own i a e
    exact ⟨h1, s.free h2, h3⟩
  own2 := r.own2
  inj := r.inj
  val := r.val
theorem set_some {α : Type} {xs : List α} {i j : Nat} {x y : α} (h : (xs.set i x)[j]? = some y) : (i = j ∧ x = y ∧ i < xs.length) ∨ (i ≠ j ∧ xs[j]? = some y) := by
  by_cases e : i = j
  · subst e
    by_cases hl : i < xs.length
    · rw [List.getElem?_set_self hl] at h
      cases h
      exact .inl ⟨rfl, rfl, hl⟩
    · rw [List.getElem?_eq_none (by rw [List.length_set]; omega)] at h
      cases h
  · rw [List.getElem?_set_ne e] at h
    exact .inr ⟨e, h⟩
/-- a slot gets what is a part of no list -/
theorem Rel.setNon {i : Nat} {w : V} {t : Tr} (r : Rel K g σ ρ H) (rp : Rp K H (g.Av [i + 1000]) w t) (hn : notLst t = true) : Rel K g (σ.set i (some w)) (ρ.set i (some t)) H where
  same := r.same
  oh := r.oh
  old := r.old
  len := by rw [List.length_set, List.length_set]; exact r.len
  len2 := by rw [List.length_set]; exact r.len2
  own := r.own
  own2 := r.own2
  inj := r.inj
  val := fun j u e => by
    rcases set_some e with ⟨rfl, h2, h3⟩ | ⟨h1, h2⟩
    · cases h2
      exact ⟨w, List.getElem?_set_self (by rw [← r.len]; exact h3), rp.ri, .inr ⟨rp, fun _ => hn⟩⟩
    · obtain ⟨v, h4, h5⟩ := r.val j u h2
      exact ⟨v, by rw [List.getElem?_set_ne h1]; exact h4, h5⟩
/-- the state behind a new list's store; fl: the slot's flag, or nothing -/
def Gh.own1 (g : Gh) (i : Nat) (p : Addr) (fl : List Nat) : Gh := { g with A := fun k => if k = i then some p else g.A k, F := fl ++ i :: g.F }
theorem own1_A {i k : Nat} {p a : Addr} {fl : List Nat} (e : (g.own1 i p fl).A k = some a) : (k = i ∧ a = p) ∨ (k ≠ i ∧ g.A k = some a) := by
  have e : (if k = i then some p else g.A k) = some a := e
  by_cases h : k = i
  · rw [if_pos h] at e
    cases e
    exact .inl ⟨h, rfl⟩
  · rw [if_neg h] at e
    exact .inr ⟨h, e⟩
/-- a slot gets a new list -/
theorem Rel.setFresh {i : Nat} {p : Addr} {vs : List V} {ts : List Tr} {fl : List Nat} {Q : Addr → Prop} (r : Rel K g σ ρ H) (hi1 : i < 1000) (hi : i ∉ g.F) (hfl : fl = [] ∨ fl = cF [i]) (s : Same H H') (hp : H p = none) (hp' : H' p = some (.lst vs)) (rr : Rps K H' Q vs ts)
    (hQ : ∀ a, (g.own1 i p fl).Av [i + 1000] a → Q a) : Rel K (g.own1 i p fl) (σ.set i (some (.ref p))) (ρ.set i (some (.lst ts))) H' := by
  have ai : g.A i = none := by
    cases e : g.A i with
    | none => rfl
    | some a => exact absurd (r.own i a e).1 hi
  have hO : ¬ g.O p := fun z => r.oh p z hp
  have hOl : ¬ g.Old p := fun z => r.old p z hp
  have hne : ∀ k a, g.A k = some a → a ≠ p := fun k a e q => by
    obtain ⟨_, _, ⟨vs, h3⟩, _⟩ := r.own k a e
    rw [q, hp] at h3
    cases h3
  have hav : ∀ j, j < 1000 → j ≠ i → ∀ a, (g.own1 i p fl).Av [j + 1000] a → g.Av [j + 1000] a ∨ a = p := fun j hj hji a z => by
    rcases z with z | ⟨k, e, n⟩ | ⟨o, q⟩
    · exact .inl (.inl z)
    · rcases own1_A e with ⟨_, h⟩ | ⟨_, h⟩
      · exact .inr h
      · exact .inl (.inr (.inl ⟨k, h, n⟩))
    · refine .inl (.inr (.inr ⟨o, fun x hx => ?_⟩))
      have q1 := q x hx
      rw [List.mem_singleton.mp hx, cc_item] at q1 ⊢
      rcases List.mem_append.mp q1 with q1 | q1
      · rcases hfl with rfl | rfl
        · cases q1
        · obtain ⟨y, hy, hy1, ey⟩ := mem_cF q1
          rw [List.mem_singleton.mp hy] at ey
          exact absurd (cc_inj hj hi1 ey) hji
      · rcases List.mem_cons.mp q1 with q1 | q1
        · have := cc_ge j
          omega
        · exact q1
  refine ⟨r.same.trans s, fun a z => (r.mono s).oh a z, (r.mono s).old, by rw [List.length_set, List.length_set]; exact r.len, by rw [List.length_set]; exact r.len2, fun k a e => ?_, fun k a e => ?_, fun k j a e e' => ?_, fun j u e => ?_⟩
  · rcases own1_A e with ⟨rfl, rfl⟩ | ⟨hk, h⟩
    · exact ⟨List.mem_append_right _ List.mem_cons_self, r.same.free hp, ⟨vs, hp'⟩, hO⟩
    · obtain ⟨h1, h2, ⟨vs, h3⟩, h4⟩ := r.own k a h
      exact ⟨List.mem_append_right _ (List.mem_cons_of_mem _ h1), h2, ⟨vs, s _ _ h3⟩, h4⟩
  · rcases own1_A e with ⟨rfl, rfl⟩ | ⟨hk, h⟩
    · exact ⟨hOl, hi1⟩
    · exact r.own2 k a h
  · rcases own1_A e with ⟨h1, h2⟩ | ⟨hk, h⟩
    · rcases own1_A e' with ⟨h1', h2'⟩ | ⟨hk', h'⟩
      · rw [h1, h1']
      · exact absurd h2 (hne j a h')
    · rcases own1_A e' with ⟨h1', h2'⟩ | ⟨hk', h'⟩
      · exact absurd h2' (hne k a h)
      · exact r.inj k j a h h'
  · rcases set_some e with ⟨rfl, h2, h3⟩ | ⟨h1, h2⟩
    · cases h2
      refine ⟨.ref p, List.getElem?_set_self (by rw [← r.len]; exact h3), .lst hp' (rr.less hQ), .inl ⟨p, ts, ?_, rfl, rfl⟩⟩
      show (if i = i then some p else g.A i) = some p
      rw [if_pos rfl]
    · obtain ⟨v, h4, h5, h6⟩ := r.val j u h2
      have hj1 : j < 1000 := by
        have := (List.getElem?_eq_some_iff.mp h2).1
        have := r.len2
        omega
      refine ⟨v, by rw [List.getElem?_set_ne h1]; exact h4, ((h5.fresh hp).less (hav j hj1 (Ne.symm h1))).mono s, ?_⟩
      rcases h6 with ⟨a, us, e1, e2, e3⟩ | ⟨h7, h8⟩
      · refine .inl ⟨a, us, ?_, e2, e3⟩
        show (if j = i then some p else g.A j) = some a
        rw [if_neg (Ne.symm h1)]
        exact e1
      · refine .inr ⟨((h7.fresh hp).less (hav j hj1 (Ne.symm h1))).mono s, fun z => ?_⟩
        rcases List.mem_append.mp z with z | z
        · rcases hfl with rfl | rfl
          · cases z
          · obtain ⟨y, _, _, ey⟩ := mem_cF z
            have := cc_ge y
            omega
        · rcases List.mem_cons.mp z with z | z
          · exact absurd z.symm h1
          · exact h8 z
/-- a slot's own list is written -/
theorem Rel.write {i : Nat} {a : Addr} {vs : List V} {ts ts0 : List Tr} (r : Rel K g σ ρ H) (ha : g.A i = some a) (hρ : ρ[i]? = some (some (.lst ts0))) (hσ : σ[i]? = some (some (.ref a))) (rr : Rps K H (g.Av [i + 1000]) vs ts) : Rel K g σ (ρ.set i (some (.lst ts))) (L2.upd H a (.lst vs)) := by
  obtain ⟨_, ha0, ⟨vs0, ha1⟩, haO⟩ := r.own i a ha
  have hi1 := (r.own2 i a ha).2
  have kp : ∀ j, j < 1000 → Keeps (g.Av [j + 1000]) H (L2.upd H a (.lst vs)) := fun j hj b o e n => by
    have hb : b ≠ a := fun q => by
      subst q
      rw [ha1] at e
      cases e
      exact n rfl (.inr (.inl ⟨i, ha, fun z => by have := List.mem_singleton.mp z; omega⟩))
    rw [upd_ne hb]
    exact e
  refine ⟨fun b o e => ?_, fun b z => ?_, fun b z => ?_, by rw [List.length_set]; exact r.len, by rw [List.length_set]; exact r.len2, fun k b e => ?_, r.own2, r.inj, fun j u e => ?_⟩
  · rw [upd_ne (ne_of_none e ha0)]
    exact r.same b o e
  · by_cases hb : b = a
    · exact absurd (hb ▸ z) haO
    · rw [upd_ne hb]
      exact r.oh b z
  · by_cases hb : b = a
    · exact absurd (hb ▸ z) (r.own2 i a ha).1
    · rw [upd_ne hb]
      exact r.old b z
  · obtain ⟨h1, h2, ⟨us, h3⟩, h4⟩ := r.own k b e
    by_cases hb : b = a
    · subst hb
      exact ⟨h1, h2, ⟨vs, upd_same⟩, h4⟩
    · exact ⟨h1, h2, ⟨us, by rw [upd_ne hb]; exact h3⟩, h4⟩
  · rcases set_some e with ⟨rfl, h2, h3⟩ | ⟨h1, h2⟩
    · cases h2
      exact ⟨.ref a, hσ, .lst upd_same (rr.keep (kp _ hi1)), .inl ⟨a, ts, ha, rfl, rfl⟩⟩
    · obtain ⟨v, h4, h5, h6⟩ := r.val j u h2
      have hj1 : j < 1000 := by
        have := (List.getElem?_eq_some_iff.mp h2).1
        have := r.len2
        omega
      rcases h6 with ⟨b, us, e1, e2, e3⟩ | ⟨h7, h8⟩
      · subst e2
        subst e3
        refine ⟨.ref b, h4, ?_, .inl ⟨b, us, e1, rfl, rfl⟩⟩
        have hb : b ≠ a := fun q => h1 (r.inj i j a ha (by rw [e1, q]))
        cases h5 with
        | lst q rr' => exact .lst (by rw [upd_ne hb]; exact q) (rr'.keep (kp j hj1))
      · exact ⟨v, h4, (h7.keep (kp j hj1)).ri, .inr ⟨h7.keep (kp j hj1), h8⟩⟩
end

/-! ### ends -/
/-- the same regions that are avoided -/
structure SamO (g' g : Gh) : Prop where
  o : g'.O = g.O
  l : g'.Old = g.Old
theorem SamO.refl {g : Gh} : SamO g g := ⟨rfl, rfl⟩
theorem SamO.trans {g g1 g2 : Gh} (a : SamO g2 g1) (b : SamO g1 g) : SamO g2 g := ⟨a.o.trans b.o, a.l.trans b.l⟩
section
variable (mg : Str → Option Value) (K : PySem.W.Frag) (W : WX) (fr dfr : Bool)
def Nx (g : Gh) (F : List Nat) (ρ : Env) (k : L2.St → Hp → Prop) : Prop := ∀ g' σ' H', SamO g' g → Same g.H0 g'.H0 → (∀ i ∈ F, i ∈ g'.F) → Rel K g' σ' ρ H' → k σ' H'
def EndS (g : Gh) (F' FL : List Nat) (D : Ends) (o : O) : Prop := match o with
  | .nx ρ => Nx K g F' ρ D.nx
  | .bk ρ => Nx K g FL ρ D.bk
  | .ct ρ => Nx K g FL ρ D.ct
  | .rt t => ∀ v H', Same g.H0 H' → Rp K H' g.O v t → (fr = true → Fr K g.H0 H' g.O v t) → (dfr = true → Rp K H' g.Old v t ∧ (fr = true → Fr K g.H0 H' g.Old v t)) → D.rt v H'
  | .ex x ρ => ∀ C, mg x = some (.ref C) → Nx K g [] ρ (W (.ref C) none)
  | .no => False
def rdS (F F' FL : List Nat) (o : Env → O) : TS := fun D σ H => ∃ g ρ, Rel K g σ ρ H ∧ (∀ i ∈ F, i ∈ g.F) ∧ EndS mg K W fr dfr g F' FL D (o ρ)
end
section
variable {mg : Str → Option Value} {K : PySem.W.Frag} {W : WX} {fr dfr : Bool} {g g1 : Gh} {F F' FL : List Nat} {D : Ends} {o : O} {σ : L2.St} {ρ : Env} {H : Hp}
theorem Nx.of {k : L2.St → Hp → Prop} (hO : SamO g1 g) (h0 : Same g.H0 g1.H0) (h : Nx K g F ρ k) : Nx K g1 F ρ k := fun g' σ' H' e s hF r => h g' σ' H' (e.trans hO) (h0.trans s) hF r
theorem EndS.of (hO : SamO g1 g) (h0 : Same g.H0 g1.H0) (h : EndS mg K W fr dfr g F' FL D o) : EndS mg K W fr dfr g1 F' FL D o := by
  cases o with
  | nx ρ => exact Nx.of hO h0 h
  | bk ρ => exact Nx.of hO h0 h
  | ct ρ => exact Nx.of hO h0 h
  | rt t =>
    intro v H' s rp f d
    refine h v H' (h0.trans s) (by rw [← hO.o]; exact rp) (fun z => ?_) fun z => ?_
    · have q := f z
      rw [hO.o] at q
      exact q.before h0
    · obtain ⟨d1, d2⟩ := d z
      rw [hO.l] at d1 d2
      exact ⟨d1, fun q => (d2 q).before h0⟩
  | ex x ρ => exact fun C e => Nx.of hO h0 (h C e)
  | no => exact h
/-- an expression's end within a statement -/
theorem go_out {α : Type} {r : R α} {f : α → O} (rl : Rel K g σ ρ H) (h : EndS mg K W fr dfr g F' FL D (r.out ρ f)) : Go mg W σ H r fun a => EndS mg K W fr dfr g F' FL D (f a) := by
  cases r with
  | ok a => exact h
  | ex x => exact fun C e H' s => h C e g σ H' .refl (Same.refl _) (fun _ z => nomatch z) (rl.mono s)
  | no => exact h
theorem qt_bindP : ∀ (p : Pat) (t : Tr) (ρ : Env), Qt (bindP p t ρ) := by
  suffices h : (∀ (p : Pat) (t : Tr) (ρ : Env), Qt (bindP p t ρ)) from h
  intro p
  exact Pat.rec (motive_1 := fun p => ∀ t ρ, Qt (bindP p t ρ)) (motive_2 := fun ps => ∀ ts ρ, Qt (bindPs ps ts ρ)) (fun i t ρ => qt_ok _)
    (fun ps ih t ρ => by cases t <;> first | exact ih _ ρ | exact qt_no)
    (fun ts ρ => by cases ts <;> first | exact qt_ok _ | exact qt_no)
    (fun p ps ih ihs ts ρ => by
      cases ts with
      | nil => exact qt_no
      | cons t ts => exact qt_bind (ih t ρ) fun ρ' => ihs ts ρ') p
theorem out_ok {α : Type} {r : R α} {f : α → O} (q : Qt r) (h : EndS mg K W fr dfr g F' FL D (r.out ρ f)) : ∃ a, r = .ok a ∧ EndS mg K W fr dfr g F' FL D (f a) := by
  cases r with
  | ok a => exact ⟨a, rfl, h⟩
  | ex x => exact absurd rfl (q x)
  | no => exact h.elim
end
theorem setAt_ix {ts us : List Tr} {k : Int} {t : Tr} (h : setAt ts k t = some us) : ∃ j, ixN ts.length k = some j ∧ us = ts.set j t := by
  unfold setAt at h
  unfold ixN
  split at h
  · rename_i h0
    rw [if_pos h0]
    split at h
    · rename_i h1
      cases h
      exact ⟨_, by rw [if_pos h1], rfl⟩
    · cases h
  · rename_i h0
    rw [if_neg h0]
    split at h
    · rename_i h1
      cases h
      exact ⟨_, by rw [if_pos h1], rfl⟩
    · cases h
theorem noVar_sub {e : Ex} {l : List Nat} : ∀ j ∈ noVar e l, j < 1000 → j ∈ l := fun j h h1 => by
  cases e <;> first
    | exact h
    | (have := List.mem_singleton.mp h; omega)
theorem escT_sub : ∀ (it : It), ∀ j ∈ escT it, j < 1000 → j ∈ escL it
  | .of e, j, h, h1 => noVar_sub j h h1
  | .rng1 _, j, h, _ => h
  | .rng2 _ _, j, h, _ => h
  | .enum e, j, h, h1 => noVar_sub j h h1
  | .zip a b, j, h, h1 => (List.mem_append.mp h).elim (fun z => List.mem_append_left _ (noVar_sub j z h1)) fun z => List.mem_append_right _ (noVar_sub j z h1)
end Jr

/-! Statements. -/
namespace Jr
open PySem PySem.Spec PyProof.Rows L2

/-! ### which statements are written by which terms -/
/-- the store is not swapped with a comprehension's end -/
def swF (sc : Scope) (x : Str) (py : Pos) : Expr → Bool
  | .ListComp _ _ s pos => !(decide (sc.names.lookup x = some .local) && (py.line == pos.line) && !(s.names.any fun (n, k) => n == x && (k == .local || k == .cell)))
  | .SetComp _ _ _ _ | .DictComp _ _ _ _ _ => false
  | _ => true
def swT (sc : Scope) (x : Str) (py : Pos) : Expr → Bool
  | .ListComp _ _ s pos => decide (sc.names.lookup x = some .local) && (py.line == pos.line) && !(s.names.any fun (n, k) => n == x && (k == .local || k == .cell))
  | _ => false
def noComp : Expr → Bool
  | .ListComp _ _ _ _ | .SetComp _ _ _ _ | .DictComp _ _ _ _ _ => false
  | _ => true
def augO : BinO → Bool
  | .add | .sub => true
  | _ => false
/-- no stores in turned order -/
def nsw : Expr → Bool
  | .Tuple vs _ _ => vs.all (foldedForSure 8)
  | _ => true
/-- the path's last step first -/
def mPth (N : List Str) (sc : Scope) (i : Nat) : List Nat → Expr → Bool
  | [], e => match e with
    | .Name x _ => varB N sc i x
    | _ => false
  | n :: p, e => match e with
    | .Subscript x (.Constant (.int j) _ _) _ => decide (j = (n : Int)) && mPth N sc i p x
    | _ => false
/-- the tests that may end the def with False; what stands behind them -/
def mG (tb : Tb) (N : List Str) (sc : Scope) : List Ex → List Stmt → Option (List Stmt)
  | [], ss => some ss
  | g :: gs, ss => match ss with
    | .If z [.Return (some (.Constant (.bool b) _ _)) _] [] _ :: ys => if !b && mC tb N sc g z then mG tb N sc gs ys else none
    | _ => none
def mK (tb : Tb) (N : List Str) (sc : Scope) (i : Nat) : List (List Nat × Ex) → List Stmt → Option (List Stmt)
  | [], ss => some ss
  | k :: ks, ss => match ss with
    | .Expr (.Call (.Attribute o nm apos) [v] [] cpos) _ :: ys => if decide (nm = ("append" : Str)) && mPth N sc i k.1 o && notStar v && mE tb N sc k.2 v && (apos.endLine == cpos.line) then mK tb N sc i ks ys else none
    | _ => none
mutual
def mS (tb : Tb) (N : List Str) (sc : Scope) : St → Stmt → Bool
  | .set i e, s => match s with
    | .Assign [.Name x py] v _ => decide (N[i]? = some x) && locB sc x && mE tb N sc e v && (swF sc x py v || swT sc x py v)
    | _ => false
  | .setp p e, s => match s with
    | .Assign [tg] v _ => isTupE tg && mP N sc p tg && mE tb N sc e v && nsw v
    | _ => false
  | .par i j a b, s => match s with
    | .Assign [.Tuple [.Name x px, .Name y py] _ _] (.Tuple [v, w] _ _) _ => decide (N[i]? = some x) && decide (N[j]? = some y) && decide (i ≠ j) && decide (x ≠ y) && decide (sc.names.lookup x = some .local) && decide (sc.names.lookup y = some .local) && (py.line == px.line) &&
      notStar v && notStar w && !([v, w].all (foldedForSure 8)) && !([v, w].all (constantsAlone 8)) && mE tb N sc a v && mE tb N sc b w
    | _ => false
  | .seti i k e, s => match s with
    | .Assign [.Subscript (.Name x _) y _] v _ => varB N sc i x && notSlice y && noComp v && mE tb N sc k y && mE tb N sc e v
    | _ => false
  | .aug i o e, s => match s with
    | .AugAssign (.Name x _) op v _ => decide (N[i]? = some x) && locB sc x && decide (op = boO o) && augO o && mE tb N sc e v
    | _ => false
  | .app i e, s => match s with
    | .Expr (.Call (.Attribute (.Name x _) nm apos) [v] [] cpos) _ => decide (nm = ("append" : Str)) && varB N sc i x && notStar v && mE tb N sc e v && (apos.endLine == cpos.line)
    | _ => false
  | .ife d a b, s => match s with
    | .If z x y _ => mC tb N sc d z && mSs tb N sc a x && mSs tb N sc b y
    | _ => false
  | .for _ p it b, s => match s with
    | .For tg iter x [] _ => mI tb N sc it iter && tgOk it tg && notSet iter && mP N sc p tg && mSs tb N sc b x
    | _ => false
  | .whl _ d b, s => match s with
    | .While z x [] _ => mC tb N sc d z && mSs tb N sc b x
    | _ => false
  | .ret e, s => match s with
    | .Return (some v) _ => mE tb N sc e v
    | _ => false
  | .retn, s => match s with
    | .Return none _ => true
    | _ => false
  | .brk, s => match s with
    | .Break _ => true
    | _ => false
  | .cnt, s => match s with
    | .Continue _ => true
    | _ => false
  | .pass, s => match s with
    | .Pass _ => true
    | _ => false
  | .expr e, s => match s with
    | .Expr v _ => mE tb N sc e v && noComp v
    | _ => false
  | .rai y, s => match s with
    | .Raise (some (.Call (.Name x _) [.Constant (.str _) _ _] [] _)) none _ => decide (x = y) && glB sc x && decide (x ∈ tb.exs)
    | _ => false
  | .trx hs tbl b, s => match s with
    | .Try body (h :: es) [] [] _ => mHds tb N sc hs (h :: es) && tblB tb hs tbl && mSs tb N sc b body
    | _ => false
def mSs (tb : Tb) (N : List Str) (sc : Scope) : Sts → List Stmt → Bool
  | .nil, ss => ss.isEmpty
  | .cons s r, ss => match ss with
    | x :: xs => mS tb N sc s x && mSs tb N sc r xs
    | [] => false
  | .kil i e gs d ks r, ss => match ss with
    | .Assign [.Name x py] v _ :: xs => decide (N[i]? = some x) && locB sc x && mE tb N sc e v && swF sc x py v && (match mG tb N sc gs xs with
      | some ys => (match d with
        | none => (match mK tb N sc i ks ys with
          | some zs => mSs tb N sc r zs
          | none => false)
        | some d => (match ys with
          | .If z ws [] _ :: zs => mC tb N sc d z && (match mK tb N sc i ks ws with
            | some [] => true
            | _ => false) && mSs tb N sc r zs
          | _ => false))
      | none => false)
    | _ => false
end

/-! ### which slots own their list -/
def cutF (F l : List Nat) : List Nat := F.filter fun i => !decide (i ∈ l)
theorem mem_cutF {F l : List Nat} {i : Nat} : i ∈ cutF F l ↔ i ∈ F ∧ i ∉ l := by
  unfold cutF
  rw [List.mem_filter]
  simp
def subF (F G : List Nat) : Bool := F.all fun i => decide (i ∈ G)
theorem subF_of {F G : List Nat} (h : subF F G = true) : ∀ i ∈ F, i ∈ G := fun i hi => by
  unfold subF at h
  exact of_decide_eq_true (List.all_eq_true.mp h i hi)
def ownRet (F : List Nat) : Ex → Bool
  | .var i => decide (i ∈ F)
  | _ => false
/-- all of these are flagged -/
def clB (F l : List Nat) : Bool := l.all fun j => decide (cc j ∈ F)
theorem clB_of {F l : List Nat} {g : Gh} (hF : ∀ i ∈ F, i ∈ g.F) (h : clB F l = true) : g.cl l := fun j hj => hF _ (of_decide_eq_true (List.all_eq_true.mp h j hj))
/-- the flags of ls, if what is stored is clean -/
def cIf (b : Bool) (ls : List Nat) : List Nat := if b then cF ls else []
mutual
def chk (tb : Tb) (fr dfr : Bool) (FL F : List Nat) : St → Option (List Nat)
  | .set i e => some ((if fresh tb e then [i] else []) ++ (cIf (clB F (esc e)) [i] ++ cutF F ([i].map cc ++ (esc e ++ [i]))))
  | .setp p e => some (cIf (clB F (esc e)) p.slots ++ cutF F (p.slots.map cc ++ (esc e ++ p.slots)))
  | .par i j a b => some (cIf (clB F (esc a ++ esc b)) [i, j] ++ cutF F ([i, j].map cc ++ ((esc a ++ esc b) ++ [i, j])))
  | .seti i _ e => if decide (i ∈ F) && !decide (i ∈ esc e) then some (cutF F (esc e ++ if clB F (esc e) then [] else [cc i])) else none
  | .aug _ _ _ => some F
  | .app i e => if decide (i ∈ F) && !decide (i ∈ esc e) then some (cutF F (esc e ++ if clB F (esc e) then [] else [cc i])) else none
  | .ife _ a b => match chks tb fr dfr FL F a, chks tb fr dfr FL F b with
    | some G, some G' => some (G.filter fun i => decide (i ∈ G'))
    | _, _ => none
  | .for fl p it b => if subF fl (cutF F ((escL it ++ p.slots) ++ if clB F (escT it) then [] else p.slots.map cc)) then (match chks tb fr dfr fl (cIf (clB F (escT it)) p.slots ++ fl) b with
    | some G => if subF fl G then some fl else none
    | none => none) else none
  | .whl fl _ b => if subF fl F then (match chks tb fr dfr fl fl b with
    | some G => if subF fl G then some fl else none
    | none => none) else none
  | .ret e => if (!fr || fresh tb e || ownRet F e) && (!dfr || clB F (esc e)) then some F else none
  | .retn => some F
  | .brk => if subF FL F then some F else none
  | .cnt => if subF FL F then some F else none
  | .pass => some F
  | .expr _ => some F
  | .rai _ => some F
  | .trx _ _ b => chks tb fr dfr FL F b
def chks (tb : Tb) (fr dfr : Bool) (FL F : List Nat) : Sts → Option (List Nat)
  | .nil => some F
  | .cons s r => match chk tb fr dfr FL F s with
    | some G => chks tb fr dfr FL G r
    | none => none
  | .kil _ e _ _ _ r => if (esc e).isEmpty then chks tb fr dfr FL F r else none
end

structure SOk (tb : Tb) (c : Ctx) (k : Nat) (N : List Str) (W : WX) (X : Cx) (sc : Scope) : Prop where
  x : XOk tb c k N W X sc sc
  kd : sc.kind = .function
  pas : PassesOwn (model X.prog X.w) X.A X.env X.xe
  stk : X.stack = X.env :: X.outer
  frm : X.env.frame = some X.env.locals

/-! ### readings -/
section
variable {mg : Str → Option Value} {K : PySem.W.Frag} {tb : Tb} {c : Ctx} {W : WX} {fr dfr : Bool} {F F' FL : List Nat} {D : Ends} {σ : L2.St} {H : Hp}
theorem Rel.addF {g : Gh} {ρ : Env} {i : Nat} (r : Rel K g σ ρ H) (hi1 : i < 1000) (h : ∀ t, ρ[i]? = some (some t) → notLst t = true) : Rel K { g with F := i :: g.F } σ ρ H := by
  have kk : ∀ l a, ({ g with F := i :: g.F } : Gh).Av l a → g.Av l a := fun l a z => by
    rcases z with z | z | ⟨o, q⟩
    · exact .inl z
    · exact .inr (.inl z)
    · refine .inr (.inr ⟨o, fun j hj => ?_⟩)
      rcases List.mem_cons.mp (q j hj) with z | z
      · have := cc_ge j
        omega
      · exact z
  exact
  { same := r.same
    oh := r.oh
    old := r.old
    len := r.len
    len2 := r.len2
    own := fun k a e => by
      obtain ⟨h1, h2⟩ := r.own k a e
      exact ⟨List.mem_cons_of_mem _ h1, h2⟩
    own2 := r.own2
    inj := r.inj
    val := fun j t e => by
      obtain ⟨v, h1, h2, h3⟩ := r.val j t e
      refine ⟨v, h1, h2.less (kk _), h3.imp id fun z => ⟨z.1.less (kk _), fun hj => ?_⟩⟩
      rcases List.mem_cons.mp hj with rfl | hj
      · exact h t e
      · exact z.2 hj }
/-- the static flags stand in the state behind stores -/
theorem stor_F {g : Gh} {lt ls : List Nat} (hF : ∀ j ∈ F, j ∈ g.F) : ∀ j ∈ cIf (clB F lt) ls ++ cutF F (ls.map cc ++ (lt ++ ls)), j ∈ (g.stor lt ls).F := fun j hj => by
  rcases List.mem_append.mp hj with h | h
  · unfold cIf at h
    split at h
    · rename_i hc
      rcases stor_or g lt ls with ⟨e, _⟩ | ⟨_, n⟩
      · rw [e]
        exact addc_F.mpr (.inl h)
      · exact absurd (clB_of hF hc) n
    · cases h
  · obtain ⟨h1, h2⟩ := mem_cutF.mp h
    have hc : j ∈ (g.cut (lt ++ ls)).F := cut_F.mpr ⟨hF j h1, .inl fun z => h2 (List.mem_append_right _ z)⟩
    rcases stor_or g lt ls with ⟨e, _⟩ | ⟨e, _⟩
    · rw [e]
      exact addc_F.mpr (.inr hc)
    · rw [e]
      exact unc_F.mpr ⟨hc, fun z => h2 (List.mem_append_left _ z)⟩
theorem set_go {i : Nat} {e : Ex} (hi1 : i < 1000) (h : rdS mg K W fr dfr F ((if fresh tb e then [i] else []) ++ (cIf (clB F (esc e)) [i] ++ cutF F ([i].map cc ++ (esc e ++ [i])))) FL (exec c (.set i e)) D σ H) : tAsg (rdE mg K tb c W e) (gName i) D σ H := by
  obtain ⟨g, ρ, r, hF, he⟩ := h
  refine ⟨g, ρ, r, (go_out r he).imp fun t _ he1 H1 w s1 z => ?_⟩
  have he1 : Nx K g ((if fresh tb e then [i] else []) ++ (cIf (clB F (esc e)) [i] ++ cutF F ([i].map cc ++ (esc e ++ [i])))) (ρ.set i (some t)) D.nx := he1
  show D.nx (σ.set i (some w)) H1
  by_cases hl : fresh tb e = true ∧ ∃ ts, t = .lst ts
  · obtain ⟨hf, ts, rfl⟩ := hl
    obtain ⟨p, vs, rfl, hp, hp', rr⟩ := z.fr hf ts rfl
    obtain ⟨fl, hfl, hc⟩ : ∃ fl, (fl = [] ∨ fl = cF [i]) ∧ ((fl = cF [i] ∧ g.cl (esc e)) ∨ (fl = [] ∧ ¬ g.cl (esc e))) := by
      by_cases hc : g.cl (esc e)
      · exact ⟨_, .inr rfl, .inl ⟨rfl, hc⟩⟩
      · exact ⟨_, .inl rfl, .inr ⟨rfl, hc⟩⟩
    have nF : i ∉ ((g.cut (esc e ++ [i])).unc [i]).F := fun q => (cut_F.mp (unc_F.mp q).1).2.elim (fun n => n (List.mem_append_right _ List.mem_cons_self)) fun q => by omega
    refine he1 (((g.cut (esc e ++ [i])).unc [i]).own1 i p fl) _ _ ⟨rfl, rfl⟩ (Same.refl _) (fun j hj => ?_) (((r.cut _).unc [i]).setFresh hi1 nF hfl s1 hp hp' rr fun a q => ?_)
    · rcases List.mem_append.mp hj with h | h
      · rw [if_pos hf] at h
        exact List.mem_append_right _ (by rw [List.mem_singleton.mp h]; exact List.mem_cons_self)
      · rcases List.mem_append.mp h with h | h
        · unfold cIf at h
          split at h
          · rename_i hb
            rcases hc with ⟨e1, _⟩ | ⟨_, n⟩
            · rw [e1]
              exact List.mem_append_left _ h
            · exact absurd (clB_of hF hb) n
          · cases h
        · obtain ⟨h1, h2⟩ := mem_cutF.mp h
          refine List.mem_append_right _ (List.mem_cons_of_mem _ (unc_F.mpr ⟨cut_F.mpr ⟨hF j h1, .inl fun z => h2 (List.mem_append_right _ z)⟩, fun z => h2 (List.mem_append_left _ z)⟩))
    · rcases q with q | ⟨k, ek, _⟩ | ⟨o, q⟩
      · exact .inl (.inl q)
      · rcases own1_A ek with ⟨_, h⟩ | ⟨_, h⟩
        · exact .inr h
        · obtain ⟨ek, hk⟩ := cut_A (show (g.cut (esc e ++ [i])).A k = some a from h)
          exact .inl (.inr (.inl ⟨k, ek, fun z => hk (List.mem_append_left _ z)⟩))
      · refine .inl (.inr (.inr ⟨o, ?_⟩))
        rcases hc with ⟨_, hc⟩ | ⟨rfl, _⟩
        · exact hc
        · have := q (i + 1000) List.mem_cons_self
          rw [cc_item] at this
          rcases List.mem_cons.mp this with h | h
          · have := cc_ge i
            omega
          · exact absurd (List.mem_map_of_mem List.mem_cons_self) (unc_F.mp h).2
  · have rs := (r.mono s1).stor (upd_one (i := i) r.len z.rp)
    by_cases hf : fresh tb e = true
    · have hn : notLst t = true := by
        cases t <;> first | rfl | exact absurd ⟨hf, _, rfl⟩ hl
      refine he1 { g.stor (esc e) [i] with F := i :: (g.stor (esc e) [i]).F } _ _ ⟨stor_O.1, stor_O.2.2⟩ (by rw [show ({ g.stor (esc e) [i] with F := i :: (g.stor (esc e) [i]).F } : Gh).H0 = g.H0 from stor_O.2.1]; exact Same.refl _) (fun j hj => ?_) (rs.addF hi1 fun u hu => ?_)
      · rcases List.mem_append.mp hj with h | h
        · rw [if_pos hf] at h
          rw [List.mem_singleton.mp h]
          exact List.mem_cons_self
        · exact List.mem_cons_of_mem _ (stor_F hF j h)
      · rcases set_some hu with ⟨_, h2, _⟩ | ⟨h1, _⟩
        · cases h2
          exact hn
        · exact absurd rfl h1
    · refine he1 (g.stor (esc e) [i]) _ _ ⟨stor_O.1, stor_O.2.2⟩ (by rw [stor_O.2.1]; exact Same.refl _) (fun j hj => ?_) rs
      rw [if_neg hf] at hj
      exact stor_F hF j hj
theorem setp_go {p : Pat} {e : Ex} (h : rdS mg K W fr dfr F (cIf (clB F (esc e)) p.slots ++ cutF F (p.slots.map cc ++ (esc e ++ p.slots))) FL (exec c (.setp p e)) D σ H) : tAsg (rdE mg K tb c W e) (rdP K p) D σ H := by
  obtain ⟨g, ρ, r, hF, he⟩ := h
  refine ⟨g, ρ, r, (go_out r he).imp fun t _ he1 H1 w s1 z => ?_⟩
  obtain ⟨ρ', hb, he2⟩ := out_ok (qt_bindP p t ρ) he1
  have he2 : Nx K g (cIf (clB F (esc e)) p.slots ++ cutF F (p.slots.map cc ++ (esc e ++ p.slots))) ρ' D.nx := he2
  exact ⟨t, g.Av (esc e), ρ, ρ', r.len, z.rp, hb, fun σ' u => he2 (g.stor (esc e) p.slots) _ _ ⟨stor_O.1, stor_O.2.2⟩ (by rw [stor_O.2.1]; exact Same.refl _) (stor_F hF) ((r.mono s1).stor u)⟩
theorem own_at {g : Gh} {ρ : Env} {i : Nat} {ts : List Tr} (r : Rel K g σ ρ H) (hi : i ∈ g.F) (e : ρ[i]? = some (some (.lst ts))) : ∃ a vs, g.A i = some a ∧ σ[i]? = some (some (.ref a)) ∧ H a = some (.lst vs) ∧ Rps K H (g.Av [i + 1000]) vs ts := by
  obtain ⟨v, h1, h2, h3⟩ := r.val i _ e
  rcases h3 with ⟨a, us, e1, e2, e3⟩ | ⟨_, h5⟩
  · subst e2
    cases e3
    cases h2 with
    | lst q rr => exact ⟨a, _, e1, h1, q, rr⟩
  · cases h5 hi
theorem slot_lst {ρ : Env} {i : Nat} {f : List Tr → O} {o : O} {g : Gh} (h : EndS mg K W fr dfr g F' FL D (match ρ[i]?.getD none with
    | some (.lst ts) => f ts
    | _ => .no)) : ∃ ts, ρ[i]? = some (some (.lst ts)) ∧ EndS mg K W fr dfr g F' FL D (f ts) := by
  cases e : ρ[i]? with
  | none => rw [e] at h; exact h.elim
  | some o =>
    rw [e] at h
    cases o with
    | none => exact h.elim
    | some t =>
      cases t with
      | lst ts => exact ⟨ts, rfl, h⟩
      | _ => exact h.elim
/-- the state behind a store into the list of the slot i -/
noncomputable def Gh.stoi (g : Gh) (lt : List Nat) (i : Nat) : Gh := by
  classical
  exact if g.cl lt then g.cut lt else (g.cut lt).unc [i]
theorem stoi_or (g : Gh) (lt : List Nat) (i : Nat) : (g.stoi lt i = g.cut lt ∧ g.cl lt) ∨ (g.stoi lt i = (g.cut lt).unc [i] ∧ ¬ g.cl lt) := by
  classical
  unfold Gh.stoi
  by_cases h : g.cl lt
  · exact .inl ⟨if_pos h, h⟩
  · exact .inr ⟨if_neg h, h⟩
theorem stoi_O {g : Gh} {lt : List Nat} {i : Nat} : (g.stoi lt i).O = g.O ∧ (g.stoi lt i).H0 = g.H0 ∧ (g.stoi lt i).Old = g.Old := by
  rcases stoi_or g lt i with ⟨e, _⟩ | ⟨e, _⟩ <;> rw [e] <;> exact ⟨rfl, rfl, rfl⟩
theorem Rel.stoi {g : Gh} {ρ : Env} (r : Rel K g σ ρ H) (lt : List Nat) (i : Nat) : Rel K (g.stoi lt i) σ ρ H := by
  rcases stoi_or g lt i with ⟨e, _⟩ | ⟨e, _⟩
  · rw [e]
    exact r.cut _
  · rw [e]
    exact (r.cut _).unc _
theorem stoi_A {g : Gh} {lt : List Nat} {i k : Nat} {a : Addr} (h : g.A k = some a) (n : k ∉ lt) : (g.stoi lt i).A k = some a := by
  have := A_cut h n
  rcases stoi_or g lt i with ⟨e, _⟩ | ⟨e, _⟩ <;> rw [e] <;> exact this
theorem stoi_av {g : Gh} {lt l : List Nat} {i : Nat} {a : Addr} (h : (g.stoi lt i).Av l a) : g.Av l a := by
  rcases stoi_or g lt i with ⟨e, _⟩ | ⟨e, _⟩
  · rw [e] at h
    exact cut_av h
  · rw [e] at h
    exact cut_av (unc_av h)
theorem stoi_new {g : Gh} {lt : List Nat} {i : Nat} {a : Addr} (h : (g.stoi lt i).Av [i + 1000] a) : g.Av lt a := by
  rcases h with z | ⟨k, ek, _⟩ | ⟨o, q⟩
  · rw [stoi_O.1] at z
    exact .inl z
  · have : g.A k = some a ∧ k ∉ lt := by
      rcases stoi_or g lt i with ⟨e, _⟩ | ⟨e, _⟩ <;> rw [e] at ek <;> exact cut_A ek
    exact .inr (.inl ⟨k, this.1, this.2⟩)
  · rw [stoi_O.2.2] at o
    rcases stoi_or g lt i with ⟨_, hc⟩ | ⟨e, _⟩
    · exact .inr (.inr ⟨o, hc⟩)
    · rw [e] at q
      have := (unc_cl q).2 (i + 1000) List.mem_cons_self
      rw [cc_item] at this
      exact absurd (List.mem_map_of_mem List.mem_cons_self) this
theorem stoi_F {g : Gh} {lt : List Nat} {i : Nat} (hF : ∀ j ∈ F, j ∈ g.F) : ∀ j ∈ cutF F (lt ++ if clB F lt then [] else [cc i]), j ∈ (g.stoi lt i).F := fun j hj => by
  obtain ⟨h1, h2⟩ := mem_cutF.mp hj
  have hc : j ∈ (g.cut lt).F := cut_F.mpr ⟨hF j h1, .inl fun z => h2 (List.mem_append_left _ z)⟩
  rcases stoi_or g lt i with ⟨e, _⟩ | ⟨e, n⟩
  · rw [e]
    exact hc
  · rw [e]
    refine unc_F.mpr ⟨hc, fun z => h2 (List.mem_append_right _ ?_)⟩
    rw [if_neg fun q => n (clB_of hF q)]
    exact z
theorem seti_go {i : Nat} {k e : Ex} (hi : i ∈ F) (hie : i ∉ esc e) (h : rdS mg K W fr dfr F (cutF F (esc e ++ if clB F (esc e) then [] else [cc i])) FL (exec c (.seti i k e)) D σ H) :
    tAsg (rdE mg K tb c W e) (gSub (tVar i) (rdE mg K tb c W k) rSetL) D σ H := by
  obtain ⟨g, ρ, r, hF, he⟩ := h
  refine ⟨g, ρ, r, (go_out r he).imp fun t _ he1 H1 w s1 z => ?_⟩
  obtain ⟨ts, hρ, he2⟩ := slot_lst (o := .no) he1
  obtain ⟨a, vs, ha, hσ, hH, rr⟩ := own_at (r.mono s1) (hF i hi) hρ
  refine ⟨.ref a, hσ, g, ρ, r.mono s1, (go_out (r.mono s1) he2).imp fun n _ he3 H2 u s2 z2 => ?_⟩
  cases n with
  | int n =>
    have he3 : EndS mg K W fr dfr g (cutF F (esc e ++ if clB F (esc e) then [] else [cc i])) FL D (match setAt ts n t with
        | some us => .nx (ρ.set i (some (.lst us)))
        | none => .no) := he3
    cases hs : setAt ts n t with
    | none => rw [hs] at he3; exact he3.elim
    | some us =>
      rw [hs] at he3
      obtain ⟨j, hj, rfl⟩ := setAt_ix hs
      have h2 := z2.rp
      cases h2
      refine ⟨a, vs, n, j, rfl, rfl, s2 _ _ hH, by rw [rr.length]; exact hj, ?_⟩
      have he3 : Nx K g (cutF F (esc e ++ if clB F (esc e) then [] else [cc i])) (ρ.set i (some (.lst (ts.set j t)))) D.nx := he3
      refine he3 (g.stoi (esc e) i) _ _ ⟨stoi_O.1, stoi_O.2.2⟩ (by rw [stoi_O.2.1]; exact Same.refl _) (stoi_F hF) ((((r.mono s1).mono s2).stoi (esc e) i).write (a := a) (stoi_A ha hie) hρ hσ ?_)
      exact ((rr.mono s2).less fun b q => stoi_av q).set ((z.rp.mono s2).less fun b q => stoi_new q) j
  | _ => exact he3.elim
theorem app_go {i : Nat} {e : Ex} (hi : i ∈ F) (hie : i ∉ esc e) (h : rdS mg K W fr dfr F (cutF F (esc e ++ if clB F (esc e) then [] else [cc i])) FL (exec c (.app i e)) D σ H) :
    tVar i σ H fun x H1 => tyV K "list" x H1 ∧ rdE mg K tb c W e σ H1 fun w H2 => rAppend x [w] H2 fun _ H3 => D.nx σ H3 := by
  obtain ⟨g, ρ, r, hF, he⟩ := h
  obtain ⟨ts, hρ, he2⟩ := slot_lst (o := .no) he
  obtain ⟨a, vs, ha, hσ, hH, rr⟩ := own_at r (hF i hi) hρ
  refine ⟨.ref a, hσ, .inl ⟨rfl, vs, SqL.of hH⟩, g, ρ, r, (go_out r he2).imp fun t _ he3 H1 w s1 z => ?_⟩
  have he3 : EndS mg K W fr dfr g (cutF F (esc e ++ if clB F (esc e) then [] else [cc i])) FL D (if ts.length < SZ then .nx (ρ.set i (some (.lst (ts ++ [t])))) else .no) := he3
  by_cases hz : ts.length < SZ
  · rw [if_pos hz] at he3
    refine ⟨a, vs, w, rfl, rfl, s1 _ _ hH, by rw [rr.length, ← SZ_eq]; exact hz, ?_⟩
    have he3 : Nx K g (cutF F (esc e ++ if clB F (esc e) then [] else [cc i])) (ρ.set i (some (.lst (ts ++ [t])))) D.nx := he3
    refine he3 (g.stoi (esc e) i) _ _ ⟨stoi_O.1, stoi_O.2.2⟩ (by rw [stoi_O.2.1]; exact Same.refl _) (stoi_F hF) (((r.mono s1).stoi (esc e) i).write (a := a) (stoi_A ha hie) hρ hσ ?_)
    exact ((rr.mono s1).less fun b q => stoi_av q).append (.cons (z.rp.less fun b q => stoi_new q) .nil)
  · rw [if_neg hz] at he3
    exact he3.elim
theorem ret_go {e : Ex} (hr : (!fr || fresh tb e) = true) (hd : (!dfr || clB F (esc e)) = true) (h : rdS mg K W fr dfr F F' FL (exec c (.ret e)) D σ H) : tRet (rdE mg K tb c W e) D σ H := by
  obtain ⟨g, ρ, r, hF, he⟩ := h
  refine ⟨g, ρ, r, (Go.imp (go_out r he) fun t ht he1 H1 w s1 z => ?_)⟩
  have he1 : ∀ v H', Same g.H0 H' → Rp K H' g.O v t → (fr = true → Fr K g.H0 H' g.O v t) → (dfr = true → Rp K H' g.Old v t ∧ (fr = true → Fr K g.H0 H' g.Old v t)) → D.rt v H' := he1
  have fre : fr = true → Fr K g.H0 H1 (g.Av (esc e)) w t := fun hfr => by
    rw [hfr] at hr
    exact (z.fr hr).before r.same
  refine he1 w H1 (r.same.trans s1) (z.rp.less fun a q => .inl q) (fun hfr => (fre hfr).less fun a q => .inl q) fun hdf => ?_
  rw [hdf] at hd
  have hc : g.cl (esc e) := clB_of hF hd
  exact ⟨z.rp.less fun a q => .inr (.inr ⟨q, hc⟩), fun hfr => (fre hfr).less fun a q => .inr (.inr ⟨q, hc⟩)⟩
theorem retv_go {i : Nat} (hi : i ∈ F) (hd : (!dfr || clB F [i]) = true) (h : rdS mg K W fr dfr F F' FL (exec c (.ret (.var i))) D σ H) : tRet (tVar i) D σ H := by
  obtain ⟨g, ρ, r, hF, he⟩ := h
  have he : EndS mg K W fr dfr g F' FL D ((ofO (ρ[i]?.getD none)).out ρ .rt) := he
  cases q : ρ[i]? with
  | none => rw [q] at he; exact he.elim
  | some o =>
    rw [q] at he
    cases o with
    | none => exact he.elim
    | some t =>
      have he : ∀ v H', Same g.H0 H' → Rp K H' g.O v t → (fr = true → Fr K g.H0 H' g.O v t) → (dfr = true → Rp K H' g.Old v t ∧ (fr = true → Fr K g.H0 H' g.Old v t)) → D.rt v H' := he
      obtain ⟨v, h1, h2, h3⟩ := r.val i t q
      have rpQ : ∀ Q : Addr → Prop, (∀ a, Q a → g.Av [i + 1000] a) → (∀ a, g.A i = some a → ¬ Q a) → Rp K H Q v t := fun Q h nq => by
        rcases h3 with ⟨a, us, e1, e2, e3⟩ | ⟨h4, _⟩
        · subst e2
          exact (h2.less h).rp fun a' ts' e4 _ => by
            cases e4
            exact nq _ e1
        · exact h4.less h
      have frQ : ∀ Q : Addr → Prop, (∀ a, Q a → g.Av [i + 1000] a) → Fr K g.H0 H Q v t := fun Q h ts et => by
        subst et
        obtain ⟨a, vs, ha, hσ, hH, rr⟩ := own_at r (hF i hi) q
        rw [h1] at hσ
        cases hσ
        refine ⟨a, vs, rfl, (r.own i a ha).2.1, hH, rr.less fun b z => z.elim (h b) fun e => ?_⟩
        rw [e]
        exact .inr (.inl ⟨i, ha, fun z => by have := List.mem_singleton.mp z; omega⟩)
      have oQ : ∀ a, g.O a → g.Av [i + 1000] a := fun a z => .inl z
      refine ⟨v, h1, he v H r.same (rpQ _ oQ fun a e => (r.own i a e).2.2.2) (fun _ => frQ _ oQ) fun hdf => ?_⟩
      rw [hdf] at hd
      have hc : g.cl [i] := clB_of hF hd
      have lQ : ∀ a, g.Old a → g.Av [i + 1000] a := fun a z => .inr (.inr ⟨z, fun j hj => by
        rw [List.mem_singleton.mp hj, cc_item]
        exact hc i List.mem_cons_self⟩)
      exact ⟨rpQ _ lQ fun a e => (r.own2 i a e).1, fun _ => frQ _ lQ⟩
theorem retn_go (h : rdS mg K W fr dfr F F' FL (exec c .retn) D σ H) : tRetN D σ H := by
  obtain ⟨g, ρ, r, hF, he⟩ := h
  have he : ∀ v H', Same g.H0 H' → Rp K H' g.O v .non → (fr = true → Fr K g.H0 H' g.O v .non) → (dfr = true → Rp K H' g.Old v .non ∧ (fr = true → Fr K g.H0 H' g.Old v .non)) → D.rt v H' := he
  exact he .non H r.same .non (fun _ => nofr fun _ z => nomatch z) fun _ => ⟨.non, fun _ => nofr fun _ z => nomatch z⟩
theorem nx_go (hF' : ∀ j ∈ F', j ∈ F) (h : rdS mg K W fr dfr F F' FL (fun ρ => .nx ρ) D σ H) : tNext D σ H := by
  obtain ⟨g, ρ, r, hF, he⟩ := h
  have he : Nx K g F' ρ D.nx := he
  exact he g σ H .refl (Same.refl _) (fun j hj => hF j (hF' j hj)) r
theorem bk_go (hF' : ∀ j ∈ FL, j ∈ F) (h : rdS mg K W fr dfr F F' FL (fun ρ => .bk ρ) D σ H) : tBreak D σ H := by
  obtain ⟨g, ρ, r, hF, he⟩ := h
  have he : Nx K g FL ρ D.bk := he
  exact he g σ H .refl (Same.refl _) (fun j hj => hF j (hF' j hj)) r
theorem ct_go (hF' : ∀ j ∈ FL, j ∈ F) (h : rdS mg K W fr dfr F F' FL (fun ρ => .ct ρ) D σ H) : tCont D σ H := by
  obtain ⟨g, ρ, r, hF, he⟩ := h
  have he : Nx K g FL ρ D.ct := he
  exact he g σ H .refl (Same.refl _) (fun j hj => hF j (hF' j hj)) r
theorem expr_go {e : Ex} (hF' : ∀ j ∈ F', j ∈ F) (h : rdS mg K W fr dfr F F' FL (exec c (.expr e)) D σ H) : tDrop (rdE mg K tb c W e) D σ H := by
  obtain ⟨g, ρ, r, hF, he⟩ := h
  refine ⟨g, ρ, r, (go_out r he).imp fun t _ he1 H1 w s1 z => ?_⟩
  have he1 : Nx K g F' ρ D.nx := he1
  exact he1 g σ H1 .refl (Same.refl _) (fun j hj => hF j (hF' j hj)) (r.mono s1)
def augF : BinO → Int → Int → Int
  | .sub => fun i j => i - j
  | _ => fun i j => i + j
theorem aug_of {o : BinO} {x t u : Tr} (h : augT o x t = .ok u) : ∃ a b, x = .int a ∧ t = .int b ∧ u = .int (augF o a b) := by
  unfold augT at h
  split at h
  · cases h; exact ⟨_, _, rfl, rfl, rfl⟩
  · cases h; exact ⟨_, _, rfl, rfl, rfl⟩
  · cases h
theorem qt_augT (o : BinO) (x t : Tr) : Qt (augT o x t) := fun y h => by
  unfold augT at h
  split at h <;> cases h
theorem aug_go {i : Nat} {o : BinO} {e : Ex} (hF' : ∀ j ∈ F', j ∈ F) (h : rdS mg K W fr dfr F F' FL (exec c (.aug i o e)) D σ H) : tAug i (rdE mg K tb c W e) (ipI (augF o)) D σ H := by
  obtain ⟨g, ρ, r, hF, he⟩ := h
  have he : EndS mg K W fr dfr g F' FL D (match ρ[i]?.getD none with
    | some x => (evE c e ρ).out ρ fun t => (augT o x t).out ρ fun u => .nx (ρ.set i (some u))
    | none => .no) := he
  cases q : ρ[i]? with
  | none => rw [q] at he; exact he.elim
  | some u =>
    rw [q] at he
    cases u with
    | none => exact he.elim
    | some t =>
      have he : EndS mg K W fr dfr g F' FL D ((evE c e ρ).out ρ fun u => (augT o t u).out ρ fun u => .nx (ρ.set i (some u))) := he
      obtain ⟨v, h1, h2, h3⟩ := r.val i _ q
      refine ⟨v, h1, g, ρ, r, (go_out r he).imp fun u _ he1 H1 w s1 z => ?_⟩
      obtain ⟨y, ey, he2⟩ := out_ok (qt_augT o t u) he1
      obtain ⟨a, b, rfl, rfl, rfl⟩ := aug_of ey
      cases h2
      have h2 := z.rp
      cases h2
      have he2 : Nx K g F' (ρ.set i (some (.int (augF o a b)))) D.nx := he2
      exact ⟨a, b, rfl, rfl, he2 g _ _ .refl (Same.refl _) (fun j hj => hF j (hF' j hj)) ((r.mono s1).setNon (.int _) rfl)⟩
theorem rai_go {X : Cx} {x : Str} {C : Addr} (hm : X.mg x = some (.ref C)) (h : rdS X.mg X.K W fr dfr F F' FL (exec c (.rai x)) D σ H) : W (.ref C) none σ H := by
  obtain ⟨g, ρ, r, hF, he⟩ := h
  have he : ∀ C, X.mg x = some (.ref C) → Nx X.K g [] ρ (W (.ref C) none) := he
  exact he C hm g σ H .refl (Same.refl _) (fun _ z => nomatch z) r
theorem trx_go {k : Nat} {N : List Str} {X : Cx} {sc osc : Scope} {W0 : WX} (x : XOk tb c k N W0 X sc osc) {hs : List Hd} {tbl : List (Str × Option Tr)} {b : Sts} {l : List Cl} (hl : HL tb X.K X.mg hs l) (ht : tblB tb hs tbl = true)
    (h : rdS X.mg X.K W fr dfr F F' FL (exec c (.trx hs tbl b)) D σ H) : rdS X.mg X.K (wHds X.K W D.rt l) fr dfr F F' FL (execs c b) D σ H := by
  obtain ⟨g, ρ, r, hF, he⟩ := h
  refine ⟨g, ρ, r, hF, ?_⟩
  have he : EndS X.mg X.K W fr dfr g F' FL D (caughtO hs tbl (execs c b ρ)) := he
  generalize execs c b ρ = o at he
  cases o with
  | ex xn ρ1 =>
    have he : EndS X.mg X.K W fr dfr g F' FL D (if nmOk hs ρ1 then (match tbl.lookup xn with
      | some (some t) => .rt t
      | some none => .ex xn ρ1
      | none => .no) else .no) := he
    by_cases hn : nmOk hs ρ1 = true
    · rw [if_pos hn] at he
      cases hk : tbl.lookup xn with
      | none => rw [hk] at he; exact he.elim
      | some o =>
        rw [hk] at he
        obtain ⟨h1, h2⟩ := tbl_ok ht hk
        intro C hC g' σ' H' e s hF1 rl
        obtain ⟨C', F'⟩ := x.exs _ h1
        have := F'.g
        rw [hC] at this
        cases this
        have hb : ∀ h ∈ hs, ∀ i, h.nm = some i → i < σ'.length := fun h hh i hi => by
          have q := List.all_eq_true.mp hn h hh
          rw [hi] at q
          rw [← rl.len]
          exact of_decide_eq_true q
        cases o with
        | none =>
          have he : ∀ C, X.mg xn = some (.ref C) → Nx X.K g [] ρ1 (W (.ref C) none) := he
          exact wish_ok x F' hl h2 hb (fun _ => he C hC g' σ' H' e s hF1 rl) fun t et => nomatch et
        | some t =>
          have he : ∀ v H', Same g.H0 H' → Rp X.K H' g.O v t → (fr = true → Fr X.K g.H0 H' g.O v t) → (dfr = true → Rp X.K H' g.Old v t ∧ (fr = true → Fr X.K g.H0 H' g.Old v t)) → D.rt v H' := he
          refine wish_ok x F' hl h2 hb (fun z => nomatch z) fun t' et H2 w s2 rp nl => ?_
          cases et
          exact he w H2 ((s.trans rl.same).trans s2) (rp _) (fun _ => nolst nl) fun _ => ⟨rp _, fun _ => nolst nl⟩
    · rw [if_neg hn] at he
      exact he.elim
  | nx ρ' => exact he
  | bk ρ' => exact he
  | ct ρ' => exact he
  | rt t => exact he
  | no => exact he
theorem par_go {i j : Nat} {a b : Ex} (h : rdS mg K W fr dfr F (cIf (clB F (esc a ++ esc b)) [i, j] ++ cutF F ([i, j].map cc ++ ((esc a ++ esc b) ++ [i, j]))) FL (exec c (.par i j a b)) D σ H) :
    rdE mg K tb c W a σ H fun v H1 => rdE mg K tb c W b σ H1 fun w H2 => D.nx ((σ.set i (some v)).set j (some w)) H2 := by
  obtain ⟨g, ρ, r, hF, he⟩ := h
  refine ⟨g, ρ, r, (go_out r he).imp fun t _ he1 H1 w s1 z => ⟨g, ρ, r.mono s1, (go_out (r.mono s1) he1).imp fun u _ he2 H2 w2 s2 z2 => ?_⟩⟩
  have he2 : Nx K g (cIf (clB F (esc a ++ esc b)) [i, j] ++ cutF F ([i, j].map cc ++ ((esc a ++ esc b) ++ [i, j]))) ((ρ.set i (some t)).set j (some u)) D.nx := he2
  have hl : (ρ.set i (some t)).length = (σ.set i (some w)).length := by rw [List.length_set, List.length_set]; exact r.len
  refine he2 (g.stor (esc a ++ esc b) [i, j]) _ _ ⟨stor_O.1, stor_O.2.2⟩ (by rw [stor_O.2.1]; exact Same.refl _) (stor_F hF) (((r.mono s1).mono s2).stor ?_)
  exact (upd_one r.len ((z.rp.mono s2).less (Gh.av_less mem_l))).trans (upd_one hl (z2.rp.less (Gh.av_less mem_r)))
end
end Jr

/-! Loops; all statements. -/
namespace Jr
open PySem PySem.Spec PyProof.Rows L2

section
variable {mg : Str → Option Value} {K : PySem.W.Frag} {tb : Tb} {c : Ctx} {W : WX} {fr dfr : Bool} {F F' FL : List Nat} {D : Ends} {σ : L2.St} {H : Hp}
/-- the state within a loop: what its own lists are is not among what stays -/
noncomputable def Gh.loop (g : Gh) (l : List Nat) (H : Hp) : Gh := by
  classical
  exact { O := g.O, Old := g.Old, A := (g.cut l).A, H0 := fun b => if ∃ k, (g.cut l).A k = some b then none else H b, F := (g.cut l).F }
theorem loop_H0 {g : Gh} {l : List Nat} {H : Hp} {b : Addr} {o : HO} (h : H b = some o) (n : ∀ k, (g.cut l).A k ≠ some b) : (g.loop l H).H0 b = some o := by
  classical
  have hn : ¬ ∃ k, (g.cut l).A k = some b := fun ⟨k, e⟩ => n k e
  show (if ∃ k, (g.cut l).A k = some b then none else H b) = some o
  rw [if_neg hn]
  exact h
theorem loop_none {g : Gh} {l : List Nat} {H : Hp} {b : Addr} (h : (g.loop l H).H0 b = none) : (∃ k, (g.cut l).A k = some b) ∨ H b = none := by
  classical
  by_cases hn : ∃ k, (g.cut l).A k = some b
  · exact .inl hn
  · have h' : (if ∃ k, (g.cut l).A k = some b then none else H b) = none := h
    rw [if_neg hn] at h'
    exact .inr h'
theorem loop_some {g : Gh} {l : List Nat} {H : Hp} {b : Addr} {o : HO} (h : (g.loop l H).H0 b = some o) : H b = some o := by
  classical
  by_cases hn : ∃ k, (g.cut l).A k = some b
  · have h' : (if ∃ k, (g.cut l).A k = some b then none else H b) = some o := h
    rw [if_pos hn] at h'
    cases h'
  · have h' : (if ∃ k, (g.cut l).A k = some b then none else H b) = some o := h
    rw [if_neg hn] at h'
    exact h'
theorem Rel.loop {g : Gh} {ρ : Env} (r : Rel K g σ ρ H) (l : List Nat) : Rel K (g.loop l H) σ ρ H where
  same := fun b o e => loop_some e
  oh := r.oh
  old := r.old
  len := r.len
  len2 := r.len2
  own2 := (r.cut l).own2
  own := fun i a e => by
    obtain ⟨h1, _, h3⟩ := (r.cut l).own i a e
    classical
    refine ⟨h1, ?_, h3⟩
    show (if ∃ k, (g.cut l).A k = some a then none else H a) = none
    rw [if_pos ⟨i, e⟩]
  inj := (r.cut l).inj
  val := (r.cut l).val
theorem Rel.loop0 {g : Gh} {ρ : Env} (r : Rel K g σ ρ H) (l : List Nat) : Same g.H0 (g.loop l H).H0 := fun b o e => loop_H0 (r.same b o e) fun k ek => by
  rw [(r.own k b (cut_A ek).1).2.1] at e
  cases e
theorem forL_cons (f : Tr → Env → O) (x : Tr) (xs : List Tr) (ρ : Env) : forL f (x :: xs) ρ = match f x ρ with
    | .nx ρ' => forL f xs ρ'
    | .ct ρ' => forL f xs ρ'
    | .bk ρ' => .nx ρ'
    | o => o := by
  rw [forL] <;> (generalize f x ρ = o; cases o <;> rfl)
/-- the ends of a loop's body -/
theorem body_ends {g g2 : Gh} {fl F1 : List Nat} {o : O} {f : Env → O} {Pv : L2.St → Hp → Prop} (hsub : ∀ j ∈ fl, j ∈ F1) (hO : SamO g2 g) (h0 : Same g.H0 g2.H0)
    (h : EndS mg K W fr dfr g fl FL D (match o with
      | .nx ρ' => f ρ'
      | .ct ρ' => f ρ'
      | .bk ρ' => .nx ρ'
      | o => o))
    (hP : ∀ g3 ρ3 σ3 H3, SamO g3 g → Same g.H0 g3.H0 → (∀ j ∈ fl, j ∈ g3.F) → Rel K g3 σ3 ρ3 H3 → EndS mg K W fr dfr g fl FL D (f ρ3) → Pv σ3 H3) :
    EndS mg K W fr dfr g2 F1 fl { D with nx := Pv, ct := Pv, bk := D.nx } o := by
  cases o with
  | nx ρ3 => exact fun g3 σ3 H3 e s hF rl => hP g3 ρ3 σ3 H3 (e.trans hO) (h0.trans s) (fun j hj => hF j (hsub j hj)) rl h
  | ct ρ3 => exact fun g3 σ3 H3 e s hF rl => hP g3 ρ3 σ3 H3 (e.trans hO) (h0.trans s) hF rl h
  | bk ρ3 => exact Nx.of hO h0 h
  | rt t => exact EndS.of (o := .rt t) (D := D) hO h0 h
  | ex x ρ3 => exact EndS.of (o := .ex x ρ3) (D := D) hO h0 h
  | no => exact h
theorem for_go {p : Pat} {it : It} {b : Sts} {fl F1 : List Nat} (hfl : ∀ j ∈ fl, j ∈ F ∧ j ∉ (escL it ++ p.slots) ++ if clB F (escT it) then [] else p.slots.map cc) (hsub : ∀ j ∈ fl, j ∈ F1)
    (h : rdS mg K W fr dfr F fl FL (exec c (.for fl p it b)) D σ H) : tFor (rdI mg K c W it) (rdP K p) (rdS mg K W fr dfr (cIf (clB F (escT it)) p.slots ++ fl) F1 fl (execs c b)) D σ H := by
  obtain ⟨g, ρ, r, hF, he⟩ := h
  refine ⟨g, ρ, r, (go_out r he).imp fun xs _ he1 H1 J s1 wk => ?_⟩
  obtain ⟨G, Y, S, w, hG, hS, hk, hl, hf, hy⟩ := wk.ex
  have r1 := r.mono s1
  have r0 := r1.loop (escL it ++ p.slots)
  have h00 := r1.loop0 (escL it ++ p.slots)
  generalize hg0 : g.loop (escL it ++ p.slots) H1 = g0 at r0 h00
  have hO0 : SamO g0 g := by rw [← hg0]; exact ⟨rfl, rfl⟩
  have hF0 : ∀ j, j ∈ g.F → j ∉ escL it ++ p.slots → j ∈ g0.F := fun j h1 h2 => by rw [← hg0]; exact cut_F.mpr ⟨h1, .inl h2⟩
  have he0 : EndS mg K W fr dfr g0 fl FL D (forL (fun x ρ' => (bindP p x ρ').out ρ' fun ρ2 => execs c b ρ2) xs ρ) := EndS.of hO0 h00 he1
  have keepB : ∀ {H2 : Hp}, Same g0.H0 H2 → ∀ b o, H1 b = some o → (mu o = true → ∀ k, g.A k = some b → k ∈ escL it ++ p.slots) → H2 b = some o := fun {H2} s2 b o e n => by
    refine s2 b o ?_
    rw [← hg0]
    refine loop_H0 e fun k ek => ?_
    obtain ⟨_, _, ⟨vs, h3⟩, _⟩ := (r1.cut (escL it ++ p.slots)).own k b ek
    rw [h3] at e
    cases e
    exact (cut_A ek).2 (n rfl k (cut_A ek).1)
  refine for_it w (fun i σ' H' => ∃ g' ρ', Rel K g' σ' ρ' H' ∧ SamO g' g0 ∧ Same g0.H0 g'.H0 ∧ (∀ j ∈ fl, j ∈ g'.F) ∧ EndS mg K W fr dfr g0 fl FL D (forL (fun x ρ' => (bindP p x ρ').out ρ' fun ρ2 => execs c b ρ2) (xs.drop i) ρ'))
    ⟨g0, ρ, r0, .refl, Same.refl _, fun j hj => hF0 j (hF j (hfl j hj).1) (fun z => (hfl j hj).2 (List.mem_append_left _ z)), he0⟩ (fun i σ' H' _ ⟨g', ρ', r', e1, s0, _, _⟩ => ?_) (fun i x σ' H2 H3 hi ⟨g', ρ', r', e1, s0, hfg, hend⟩ hy0 => ?_) fun σ' H' ⟨g', ρ', r', e1, s0, hfg, hend⟩ => ?_
  · refine hG H' fun b o e n => keepB (s0.trans r'.same) b o e fun m k ek => ?_
    refine Classical.byContradiction fun hk' => n m (.inr (.inl ⟨k, ek, fun z => hk' (List.mem_append_left _ z)⟩))
  · have S2 : S (fun a => g.Av (escT it) a ∨ H1 a = none) H2 := by
      refine hk _ _ _ (hf _ _ hS) fun b o e n => keepB (s0.trans r'.same) b o e fun m k ek => ?_
      refine Classical.byContradiction fun hk' => n m (.inl (.inr (.inl ⟨k, ek, fun z => hk' (List.mem_append_left _ (escT_sub it _ z (r.own2 k _ ek).2))⟩)))
    obtain ⟨s3, t, ht, rp⟩ := hy i H2 x H3 _ hi S2 hy0
    have hdrop : xs.drop i = t :: xs.drop (i + 1) := by
      rw [List.drop_eq_getElem_cons hi]
      rw [List.getElem?_eq_getElem hi] at ht
      cases ht
      rfl
    rw [hdrop, forL_cons] at hend
    have hb : ∃ ρ2, bindP p t ρ' = .ok ρ2 := by
      cases q : bindP p t ρ' with
      | ok ρ2 => exact ⟨ρ2, rfl⟩
      | ex u => exact absurd q (qt_bindP p t ρ' u)
      | no => rw [q] at hend; exact hend.elim
    obtain ⟨ρ2, hb⟩ := hb
    rw [hb] at hend
    refine ⟨t, fun a => g.Av (escT it) a ∨ H1 a = none, ρ', ρ2, r'.len, rp, hb, fun σ2 u => ?_⟩
    have av : ∀ a, (g'.O a ∨ ∃ k, (g'.cut p.slots).A k = some a) → g.Av (escT it) a ∨ H1 a = none := fun a z => by
      rcases z with z | ⟨k, ek⟩
      · exact .inl (.inl (by rw [← hO0.o, ← e1.o]; exact z))
      · obtain ⟨ek, _⟩ := cut_A ek
        have h0n : g0.H0 a = none := s0.free (r'.own k a ek).2.1
        rw [← hg0] at h0n
        rcases loop_none h0n with ⟨k', ek'⟩ | h
        · obtain ⟨ek', hn⟩ := cut_A ek'
          exact .inl (.inr (.inl ⟨k', ek', fun z => hn (List.mem_append_left _ (escT_sub it _ z (r.own2 k' _ ek').2))⟩))
        · exact .inr h
    have nF : ∀ i ∈ p.slots, i < 1000 → i ∉ (g'.cut p.slots).F := fun i hi h1 z => (cut_F.mp z).2.elim (fun n => n hi) fun q => by omega
    have hflc : ∀ j ∈ fl, j ∈ (g'.cut p.slots).F := fun j hj => cut_F.mpr ⟨hfg j hj, .inl fun z => (hfl j hj).2 (List.mem_append_left _ (List.mem_append_right _ z))⟩
    obtain ⟨gB, rB, oB, h0B, fB⟩ : ∃ gB, Rel K gB σ2 ρ2 H3 ∧ SamO gB g' ∧ gB.H0 = g'.H0 ∧ ∀ j ∈ cIf (clB F (escT it)) p.slots ++ fl, j ∈ gB.F := by
      by_cases hc : g.cl (escT it)
      · refine ⟨(g'.cut p.slots).addc p.slots, ((r'.mono s3).cut _).updC u nF (fun i hi a z => ?_), ⟨rfl, rfl⟩, rfl, fun j hj => ?_⟩
        · rcases z with z | ⟨k, ek, _⟩ | ⟨o, _⟩
          · exact av a (.inl z)
          · exact av a (.inr ⟨k, ek⟩)
          · exact .inl (.inr (.inr ⟨by rw [← hO0.l, ← e1.l]; exact o, hc⟩))
        · rcases List.mem_append.mp hj with h | h
          · unfold cIf at h
            split at h
            · exact addc_F.mpr (.inl h)
            · cases h
          · exact addc_F.mpr (.inr (hflc j h))
      · have hcb : clB F (escT it) = false := by
          cases q : clB F (escT it) with
          | true => exact absurd (clB_of hF q) hc
          | false => rfl
        refine ⟨(g'.cut p.slots).unc p.slots, (((r'.mono s3).cut _).unc _).upd u (fun i hi h1 z => nF i hi h1 (unc_F.mp z).1) (fun i hi a z => ?_), ⟨rfl, rfl⟩, rfl, fun j hj => ?_⟩
        · rcases z with z | ⟨k, ek, _⟩ | ⟨o, q⟩
          · exact av a (.inl z)
          · exact av a (.inr ⟨k, ek⟩)
          · have := (unc_cl q).2 (i + 1000) List.mem_cons_self
            rw [cc_item] at this
            exact absurd (List.mem_map_of_mem hi) this
        · rw [hcb] at hj
          rcases List.mem_append.mp hj with h | h
          · cases h
          · refine unc_F.mpr ⟨hflc j h, fun z => (hfl j h).2 (List.mem_append_right _ ?_)⟩
            rw [hcb]
            exact z
    refine ⟨gB, ρ2, rB, fB, ?_⟩
    exact body_ends (g := g0) (o := execs c b ρ2) (f := forL (fun x ρ' => (bindP p x ρ').out ρ' fun ρ2 => execs c b ρ2) (xs.drop (i + 1))) hsub (oB.trans e1) (by rw [h0B]; exact s0) hend fun g3 ρ3 σ3 H3 e s hF rl he3 => ⟨g3, ρ3, rl, e, s, hF, he3⟩
  · rw [List.drop_length] at hend
    have hend : Nx K g0 fl ρ' D.nx := hend
    exact hend g' σ' H' e1 s0 hfg r'
theorem whl_go {d : Ex} {b : Sts} {fl F1 : List Nat} (hfl : ∀ j ∈ fl, j ∈ F) (hsub : ∀ j ∈ fl, j ∈ F1)
    (h : rdS mg K W fr dfr F fl FL (exec c (.whl fl d b)) D σ H) : tWhile (rdC mg K c W d) (rdS mg K W fr dfr fl F1 fl (execs c b)) D σ H := by
  obtain ⟨g, ρ, r, hF, he⟩ := h
  refine ⟨fun m σ' H' => ∃ g' ρ', Rel K g' σ' ρ' H' ∧ SamO g' g ∧ Same g.H0 g'.H0 ∧ (∀ j ∈ fl, j ∈ g'.F) ∧ EndS mg K W fr dfr g fl FL D (whlL (fun ρ' => evC c d ρ') (fun ρ' => execs c b ρ') m ρ'),
    ⟨c.fuel, g, ρ, r, .refl, Same.refl _, fun j hj => hF j (hfl j hj), he⟩, fun m σ' H' ⟨g', ρ', r', e1, s0, hfg, hend⟩ => ?_⟩
  cases m with
  | zero => exact hend.elim
  | succ n =>
    have hend : EndS mg K W fr dfr g fl FL D ((evC c d ρ').out ρ' fun b' => if b' then (match execs c b ρ' with
      | .nx ρ' => whlL (fun ρ' => evC c d ρ') (fun ρ' => execs c b ρ') n ρ'
      | .ct ρ' => whlL (fun ρ' => evC c d ρ') (fun ρ' => execs c b ρ') n ρ'
      | .bk ρ' => .nx ρ'
      | o => o) else .nx ρ') := hend
    refine ⟨g', ρ', r', Go.imp (go_out r' (hend.of e1 s0)) fun t ht he1 H1 s1 => ?_⟩
    have he1 : EndS mg K W fr dfr g fl FL D (if t then (match execs c b ρ' with
      | .nx ρ' => whlL (fun ρ' => evC c d ρ') (fun ρ' => execs c b ρ') n ρ'
      | .ct ρ' => whlL (fun ρ' => evC c d ρ') (fun ρ' => execs c b ρ') n ρ'
      | .bk ρ' => .nx ρ'
      | o => o) else .nx ρ') := by
      rw [ht] at hend
      exact hend
    cases t with
    | false =>
      have he1 : Nx K g fl ρ' D.nx := he1
      exact iteF (he1 g' σ' H1 e1 s0 hfg (r'.mono s1))
    | true =>
      refine iteT ⟨fun σ2 H2 => ∃ g' ρ', Rel K g' σ2 ρ' H2 ∧ SamO g' g ∧ Same g.H0 g'.H0 ∧ (∀ j ∈ fl, j ∈ g'.F) ∧ EndS mg K W fr dfr g fl FL D (whlL (fun ρ' => evC c d ρ') (fun ρ' => execs c b ρ') n ρ'), fun σ2 H2 q => ⟨n, Nat.lt_succ_self n, q⟩, ?_⟩
      exact ⟨g', ρ', r'.mono s1, hfg, body_ends (g := g) (o := execs c b ρ') (f := whlL (fun ρ' => evC c d ρ') (fun ρ' => execs c b ρ') n) hsub e1 s0 he1 fun g3 ρ3 σ3 H3 e s hF rl he3 => ⟨g3, ρ3, rl, e, s, hF, he3⟩⟩
theorem if_go {d : Ex} {a b : Sts} {G G' : List Nat} (hG : ∀ j ∈ F', j ∈ G ∧ j ∈ G') (h : rdS mg K W fr dfr F F' FL (exec c (.ife d a b)) D σ H) : tIfS (rdC mg K c W d) (rdS mg K W fr dfr F G FL (execs c a)) (rdS mg K W fr dfr F G' FL (execs c b)) D σ H := by
  obtain ⟨g, ρ, r, hF, he⟩ := h
  have weak : ∀ {G o}, (∀ j ∈ F', j ∈ G) → EndS mg K W fr dfr g F' FL D o → EndS mg K W fr dfr g G FL D o := fun {G o} hs h => by
    cases o with
    | nx ρ => exact fun g' σ' H' e s hF rl => h g' σ' H' e s (fun j hj => hF j (hs j hj)) rl
    | _ => exact h
  refine ⟨g, ρ, r, (go_out r he).imp fun t _ he1 H1 s1 => ?_⟩
  cases t with
  | true => exact iteT ⟨g, ρ, r.mono s1, hF, weak (fun j hj => (hG j hj).1) he1⟩
  | false => exact iteF ⟨g, ρ, r.mono s1, hF, weak (fun j hj => (hG j hj).2) he1⟩
theorem seq_go {s : St} {rest : Sts} {G : List Nat} (h : rdS mg K W fr dfr F F' FL (execs c (.cons s rest)) D σ H) : tSeq (rdS mg K W fr dfr F G FL (exec c s)) (rdS mg K W fr dfr G F' FL (execs c rest)) D σ H := by
  obtain ⟨g, ρ, r, hF, he⟩ := h
  have he : EndS mg K W fr dfr g F' FL D ((exec c s ρ).andThen fun ρ' => execs c rest ρ') := he
  refine ⟨g, ρ, r, hF, ?_⟩
  generalize exec c s ρ = o at he
  cases o with
  | nx ρ' => exact fun g' σ' H' e s hF rl => ⟨g', ρ', rl, hF, EndS.of (o := execs c rest ρ') e s he⟩
  | bk ρ' => exact he
  | ct ρ' => exact he
  | rt t => exact he
  | ex x ρ' => exact he
  | no => exact he
end
end Jr

/-! All statements. -/
namespace Jr
open PySem PySem.Spec PyProof.Rows L2

section
variable {tb : Tb} {c : Ctx} {k : Nat} {N : List Str} {W : WX} {X : Cx} {sc : Scope}
theorem sw_false {v : Expr} {x : Str} {py : Pos} {l : Nat} {env : PySem.Env} (hs : env.scope = sc) (h : swF sc x py v = true) : swapsWith v (some (.Name x py)) l env = pure false := by
  cases v <;> first
    | rfl
    | (cases h; done)
    | skip
  rename_i elt gs s pos
  have h' : (!(decide (sc.names.lookup x = some .local) && (py.line == pos.line) && !(s.names.any fun (n, k) => n == x && (k == .local || k == .cell)))) = true := h
  unfold swapsWith
  have ky : env.kindOf x = sc.names.lookup x := by rw [← hs]; rfl
  simp only [ky, Expr.pos]
  have e : (env.blockKind == ScopeKind.function && sc.names.lookup x == some NameKind.local && py.line == pos.line && !(s.names.any fun (n, k) => n == x && (k == .local || k == .cell))) = false := by
    cases q : (env.blockKind == ScopeKind.function && sc.names.lookup x == some NameKind.local && py.line == pos.line && !(s.names.any fun (n, k) => n == x && (k == .local || k == .cell))) with
    | false => rfl
    | true =>
      simp only [Bool.and_eq_true] at q
      have q2 : sc.names.lookup x = some .local := by simpa using q.1.1.2
      rw [q2, q.1.2, q.2] at h'
      simp at h'
  rw [e]
theorem sole_false {tg v : Expr} {l : Nat} {env : PySem.Env} (h : isTupE tg = true) : swapsWithSole [tg] v l env = pure false := by
  cases tg <;> first
    | (cases h; done)
    | (cases v <;> rfl)
theorem stores_none {tg v : Expr} {env : PySem.Env} (h : isTupE tg = true) (hv : nsw v = true) : swappedStores [tg] v env = pure none := by
  cases tg <;> first
    | (cases h; done)
    | skip
  rename_i ts j pos
  cases v <;> first
    | rfl
    | skip
  rename_i vs j2 pos2
  have hv' : vs.all (foldedForSure 8) = true := hv
  unfold swappedStores
  simp only [hv', if_true, pure_bind]
  split
  · rfl
  · split
    · rfl
    · split <;> rfl
theorem ts_of (hl : ∀ (f : Nat) (d : Fn), tb.fns[f]? = some d → ∀ ts, ts.length ≠ d.np → c.cal f ts = .no) {d : Ex} {ifs : List Expr} {scope : Scope} (h7 : (match ifs with
      | [] => isNil d
      | [y] => mC tb N (relS scope sc) d y
      | _ => false) = true) : ∀ X', XOk tb c k N W0 X' (relS scope sc) scope → PTs X' ifs (rdC X'.mg X'.K c W0 d) := fun X' x' => by
  split at h7
  · rw [isNil_of h7]; exact ts_nil
  · exact pts_one ((all_ok hl d).2 _ _ _ _ _ _ x' h7).1
  · cases h7
/-- name = a list comprehension, the stores swapped -/
theorem setLc_any (hl : ∀ (f : Nat) (d : Fn), tb.fns[f]? = some d → ∀ ts, ts.length ≠ d.np → c.cal f ts = .no) (xo : SOk tb c k N W X sc) {x : Str} {py spos : Pos} {i : Nat} (hi : N[i]? = some x) :
    ∀ {e : Ex} {v : Expr}, swT sc x py v = true → mE tb N sc e v = true → PS X (.Assign [.Name x py] v spos) (tAsg (rdE X.mg X.K tb c W e) (gName i))
  | e, v, hsw, h => by
    have x' := xo.x
    cases v <;> first
      | (cases hsw; done)
      | skip
    rename_i elt gs scope pos
    have hsw' : (decide (sc.names.lookup x = some .local) && (py.line == pos.line) && !(scope.names.any fun (n, k) => n == x && (k == .local || k == .cell))) = true := hsw
    simp only [Bool.and_eq_true, decide_eq_true_eq] at hsw'
    obtain ⟨⟨hloc, hline⟩, hany⟩ := hsw'
    have hany : (scope.names.any fun (n, k) => n == x && (k == .local || k == .cell)) = false := by simpa using hany
    have hsws : ∀ l, swapsWith (.ListComp elt gs scope pos) (some (.Name x py)) l X.env = pure true := fun l => sw_true (by rw [x'.hsc]; exact xo.kd) (by rw [x'.hsc]; exact hloc) hline hany
    cases e with
    | im a =>
      have q := setLc_any hl xo (spos := spos) hi (e := a) hsw h
      exact q.to fun D σ H z => im_go z
    | ims a =>
      rw [mE_ims, Bool.and_eq_true] at h
      have q := setLc_any hl xo (spos := spos) hi (e := a) hsw h.2
      exact q.to fun D σ H z => ims_go h.1 z
    | comp p it d e =>
      rw [mE_comp] at h; split at h
      · rename_i heq
        cases heq
        simp only [Bool.and_eq_true, decide_eq_true_eq] at h
        obtain ⟨⟨⟨⟨⟨⟨⟨h1, h2⟩, h3⟩, h4⟩, h5⟩, h6⟩, h7⟩, h8⟩ := h
        subst h1
        have ok : BlkOk X.N X.env.scope scope (ownOf N p.slots) := by rw [x'.hN, x'.hsc]; exact blkOk_by h5
        have ht := ts_of (k := k) (sc := sc) (scope := scope) hl h7
        have hq := ps_setLc (i := i) (te := rdE X.mg X.K tb c W0 e) (tt := rdC X.mg X.K c W0 d) (g := rdP X.K p) (py := py) (spos := spos) x'.calm (by rw [x'.hN]; exact x'.nd) (by rw [x'.hN]; exact hi) (by rw [x'.hsc]; exact hloc) (hsws _) (it_ok hl it _ _ _ _ _ _ _ x' h2 h3) ok
          (fun s H C cl fp => p_ok (XOk.blk x') h6) (fun s H C cl fp => ht _ (XOk.blk (s := s) (H := H) (C := C) (cl := cl) (fp := fp) x')) (fun s H C cl fp => (all_ok hl e).1 _ _ _ _ _ _ (XOk.blk (s := s) (H := H) (C := C) (cl := cl) (fp := fp) x') h8) (folded h4 _)
        rw [ownOf_snd] at hq
        exact hq.to fun D σ H z => comp_go z
      · cases h
    | comp2 p it q it2 d e =>
      rw [mE_comp2] at h; split at h
      · rename_i heq
        cases heq
        simp only [Bool.and_eq_true, decide_eq_true_eq] at h
        obtain ⟨⟨⟨⟨⟨⟨⟨⟨⟨⟨⟨⟨⟨h1, h1'⟩, h0⟩, h2⟩, h3⟩, h4⟩, h5⟩, h6⟩, g2⟩, g3⟩, g4⟩, g6⟩, h7⟩, h8⟩ := h
        subst h1
        subst h1'
        rw [List.isEmpty_iff] at h0
        subst h0
        have ok : BlkOk X.N X.env.scope scope (ownOf N (p.slots ++ q.slots)) := by rw [x'.hN, x'.hsc]; exact blkOk_by h5
        have ht := ts_of (k := k) (sc := sc) (scope := scope) hl h7
        have hq := ps_setLc2 (i := i) (te := rdE X.mg X.K tb c W0 e) (tt1 := rdC X.mg X.K c W0 d) (g := rdP X.K p) (g1 := rdP X.K q) (wi1 := rdI X.mg X.K c W0 it2) (tt := tYes) (vs1 := q.slots) (py := py) (spos := spos) x'.calm (by rw [x'.hN]; exact x'.nd) (by rw [x'.hN]; exact hi)
          (by rw [x'.hsc]; exact hloc) (hsws _) (it_ok hl it _ _ _ _ _ _ _ x' h2 h3) ok (fun i hi => by rw [ownOf_snd]; exact List.mem_append_right _ hi) (fun s H C cl fp => p_ok (XOk.blk x') h6) (fun s H C cl fp => pts_nil)
          (fun s H C cl fp => it_ok hl it2 _ _ _ _ _ _ _ (XOk.blk (s := s) (H := H) (C := C) (cl := cl) (fp := fp) x') g2 g3) (fun s H C cl fp => p_ok (XOk.blk x') g6)
          (fun s H C cl fp => ht _ (XOk.blk (s := s) (H := H) (C := C) (cl := cl) (fp := fp) x')) (fun s H C cl fp => (all_ok hl e).1 _ _ _ _ _ _ (XOk.blk (s := s) (H := H) (C := C) (cl := cl) (fp := fp) x') h8) (folded h4 _) (folded g4)
        rw [ownOf_snd] at hq
        exact hq.to fun D σ H z => comp2_go z
      · cases h
    | _ => exact nomatch (show false = true from h)
end
end Jr

/-! A new value is changed in place and never read again. -/
namespace Jr
open PySem PySem.Spec PyProof.Rows L2
section
variable {K : PySem.W.Frag} {g : Gh} {σ : L2.St} {ρ : Env} {H H' : Hp}
/-- nothing is known of the slot any more -/
theorem Rel.setNone {i : Nat} {w : V} (r : Rel K g σ ρ H) : Rel K g (σ.set i (some w)) (ρ.set i none) H where
  same := r.same
  oh := r.oh
  old := r.old
  len := by rw [List.length_set, List.length_set]; exact r.len
  len2 := by rw [List.length_set]; exact r.len2
  own := r.own
  own2 := r.own2
  inj := r.inj
  val := fun j u e => by
    rcases set_some e with ⟨_, h2, _⟩ | ⟨h1, h2⟩
    · cases h2
    · obtain ⟨v, h4, h5⟩ := r.val j u h2
      exact ⟨v, by rw [List.getElem?_set_ne h1]; exact h4, h5⟩
/-- the state in which all that stands is old -/
def Gh.allOld (g : Gh) (H : Hp) : Gh := { O := g.O, Old := fun a => H a ≠ none, A := fun _ => none, H0 := g.H0, F := [] }
theorem Rel.allOld (r : Rel K g σ ρ H) : Rel K (g.allOld H) σ ρ H where
  same := r.same
  oh := r.oh
  old := fun _ z => z
  len := r.len
  len2 := r.len2
  own := fun i a e => nomatch (show none = some a from e)
  own2 := fun i a e => nomatch (show none = some a from e)
  inj := fun i j a e => nomatch (show none = some a from e)
  val := fun i t e => by
    obtain ⟨v, h1, h2, h3⟩ := r.val i t e
    have sub : ∀ a, (g.allOld H).Av [i + 1000] a → g.O a := fun a z => by
      rcases z with z | ⟨k, ek, _⟩ | ⟨_, q⟩
      · exact z
      · exact nomatch (show none = some a from ek)
      · exact nomatch q (i + 1000) List.mem_cons_self
    have sO : ∀ a, (g.allOld H).Av [i + 1000] a → g.Av [i + 1000] a := fun a z => .inl (sub a z)
    refine ⟨v, h1, h2.less sO, .inr ⟨?_, fun z => nomatch z⟩⟩
    rcases h3 with ⟨a, ts, e1, e2, e3⟩ | ⟨h4, _⟩
    · subst e2
      refine (h2.less sO).rp fun a' ts' e4 _ z => ?_
      cases e4
      exact (r.own i a e1).2.2.2 (sub a z)
    · exact h4.less sO
/-- what is made in it is new -/
theorem allOld_new {H1 : Hp} {w : V} {t : Tr} (h : Rp K H1 ((g.allOld H).Av []) w t) : Rp K H1 (fun a => H a ≠ none) w t :=
  h.less fun a z => .inr (.inr ⟨z, fun _ q => nomatch q⟩)
end
/-- H' goes on from H1: lists may have got more at their ends, at most so many -/
structure Pre (H1 H' : Hp) (j : Nat) : Prop where
  o : ∀ a o, H1 a = some o → mu o = false → H' a = some o
  l : ∀ a vs, H1 a = some (.lst vs) → ∃ ms, H' a = some (.lst (vs ++ ms)) ∧ ms.length ≤ j
theorem Pre.of {H1 H' : Hp} (s : Same H1 H') : Pre H1 H' 0 := ⟨fun a o e _ => s a o e, fun a vs e => ⟨[], by rw [List.append_nil]; exact s _ _ e, Nat.le_refl 0⟩⟩
theorem Pre.mono {H1 H' H2 : Hp} {j : Nat} (p : Pre H1 H' j) (s : Same H' H2) : Pre H1 H2 j := ⟨fun a o e m => s _ _ (p.o a o e m), fun a vs e => by
  obtain ⟨ms, h, l⟩ := p.l a vs e
  exact ⟨ms, s _ _ h, l⟩⟩
theorem Pre.tup {K : PySem.W.Frag} {H1 H' : Hp} {j : Nat} (p : Pre H1 H' j) {a : Addr} {vs : List V} (q : SqT K H1 a vs) : SqT K H' a vs := by
  rcases q with (q | ⟨o, q⟩) | q
  · exact .inl (.inl (p.o _ _ q rfl))
  · exact .inl (.inr ⟨o, p.o _ _ q rfl⟩)
  · exact .inr q
theorem Pre.write {H1 H' : Hp} {j : Nat} (p : Pre H1 H' j) {a : Addr} {vs ms : List V} {u : V} (e1 : H1 a = some (.lst vs)) (h : H' a = some (.lst (vs ++ ms))) (hm : ms.length ≤ j) : Pre H1 (L2.upd H' a (.lst ((vs ++ ms) ++ [u]))) (j + 1) := by
  refine ⟨fun b o e m => ?_, fun b ws e => ?_⟩
  · have hb : b ≠ a := fun z => by
      subst z
      rw [e1] at e
      cases e
      cases m
    rw [L2.upd_ne hb]
    exact p.o b o e m
  · by_cases hb : b = a
    · subst hb
      rw [e1] at e
      cases e
      refine ⟨ms ++ [u], ?_, by rw [List.length_append]; exact Nat.succ_le_succ hm⟩
      rw [L2.upd_same, List.append_assoc]
    · obtain ⟨ns, h2, l2⟩ := p.l b ws e
      exact ⟨ns, by rw [L2.upd_ne hb]; exact h2, by omega⟩
/-- along a path -/
def tPth (K : PySem.W.Frag) (i : Nat) : List Nat → TE
  | [] => tVar i
  | n :: p => tOp (rIx K) (tPth K i p) (tC (.int (n : Int)))
section
variable {tb : Tb} {c : Ctx} {k : Nat} {N : List Str} {W : WX} {X : Cx} {sc : Scope}
theorem pth_ok (xo : XOk tb c k N W X sc sc) {i : Nat} : ∀ {p : List Nat} {e : Expr}, mPth N sc i p e = true → PE X e (tPth X.K i p)
  | [], e, h => by
    unfold mPth at h
    split at h
    · unfold varB at h
      simp only [Bool.and_eq_true, decide_eq_true_eq] at h
      exact pe_var (i := i) (by rw [xo.hN]; exact h.1.1.1) (xo.vis h.1.1.2) (by simpa using h.1.2) (by simpa using h.2)
    · cases h
  | n :: p, e, h => by
    unfold mPth at h
    split at h
    · rw [Bool.and_eq_true, decide_eq_true_eq] at h
      obtain ⟨rfl, h2⟩ := h
      exact pe_ix ix_seq (pth_ok xo h2) pe_int (plainIx rfl)
    · cases h
end
theorem atI_pre {vs ms : List V} {n : Nat} {v : V} (h : vs[n]? = some v) : atI (vs ++ ms) (n : Int) = some v := by
  have hn := (List.getElem?_eq_some_iff.mp h).1
  unfold atI ixN
  rw [if_pos (by omega), if_pos (by rw [List.length_append]; omega)]
  show (vs ++ ms)[((n : Int)).toNat]? = _
  rw [Int.toNat_natCast, List.getElem?_append_left hn]
  exact h
section
variable {K : PySem.W.Frag} {σ : L2.St} {H1 H' : Hp} {Av : Addr → Prop} {j : Nat}
theorem pth_go {i : Nat} {w : V} {t : Tr} (hσ : σ[i]? = some (some w)) (hw : Rp K H1 Av w t) (pr : Pre H1 H' j) : ∀ (p : List Nat) {u : Tr} {Q : VK}, pathT t p = some u → (∀ x, Rp K H1 Av x u → Q x H') → tPth K i p σ H' Q
  | [], u, Q, e, q => by
    cases e
    exact ⟨w, hσ, q w hw⟩
  | n :: p, u, Q, e, q => by
    unfold pathT at e
    cases e2 : pathT t p with
    | none =>
      rw [e2] at e
      cases e
    | some y =>
      rw [e2] at e
      have e : childT y n = some u := e
      refine pth_go hσ hw pr p e2 fun x hx => ?_
      show rIx K x (.int (n : Int)) H' Q
      cases y with
      | lst ts =>
        have e : ts[n]? = some u := e
        cases hx with
        | lst q1 _ rr =>
          obtain ⟨v, hv, rv⟩ := rr.get e
          obtain ⟨ms, hm, _⟩ := pr.l _ _ q1
          exact .inl ⟨_, _, _, v, rfl, rfl, SqL.of hm, atI_pre hv, q v rv⟩
      | tup ts =>
        have e : ts[n]? = some u := e
        cases hx with
        | tup q1 rr =>
          obtain ⟨v, hv, rv⟩ := rr.get e
          refine .inr (.inl ⟨_, _, _, v, rfl, rfl, pr.tup q1, ?_, q v rv⟩)
          have := atI_pre (ms := []) hv
          rwa [List.append_nil] at this
      | non => cases e
      | bl b => cases e
      | int n => cases e
      | str s => cases e
      | scr ns => cases e
end
/-! ### the tests, the changes -/
section
variable (mg : Str → Option Value) (K : PySem.W.Frag) (tb : Tb) (c : Ctx) (W : WX)
def tG : List Ex → TS → TS
  | [], T => T
  | g :: gs, T => tSeq (tIfS (rdC mg K c W g) (tRet (tC (.bl false))) tNext) (tG gs T)
def tKs (i : Nat) : List (List Nat × Ex) → TS → TS
  | [], T => T
  | k :: ks, T => tSeq (fun D σ H => tPth K i k.1 σ H fun x H1 => tyV K "list" x H1 ∧ rdE mg K tb c W k.2 σ H1 fun w H2 => rAppend x [w] H2 fun _ H3 => D.nx σ H3) (tKs i ks T)
def tKD (i : Nat) (d : Option Ex) (ks : List (List Nat × Ex)) (T : TS) : TS := match d with
  | none => tKs mg K tb c W i ks T
  | some d => tSeq (tIfS (rdC mg K c W d) (tKs mg K tb c W i ks tNext) tNext) T
end
section
variable {mg : Str → Option Value} {K : PySem.W.Frag} {tb : Tb} {c : Ctx} {W : WX} {fr dfr : Bool} {F F' FL : List Nat} {D : Ends} {σ : L2.St} {H : Hp}
theorem guard_go {T : TS} {g : Gh} {ρ : Env} {o : O} : ∀ {gs : List Ex} {H : Hp}, Rel K g σ ρ H → EndS mg K W fr dfr g F' FL D (guardO c gs ρ o) → (∀ H2, Same H H2 → Rel K g σ ρ H2 → EndS mg K W fr dfr g F' FL D o → T D σ H2) → tG mg K c W gs T D σ H
  | [], H, r, h, k => k H (Same.refl _) r h
  | d :: gs, H, r, h, k => by
    refine ⟨g, ρ, r, (go_out r h).imp fun b _ h1 H1 s1 => ?_⟩
    cases b with
    | true =>
      rw [if_pos rfl]
      have h1 : ∀ v H', Same g.H0 H' → Rp K H' g.O v (.bl false) → (fr = true → Fr K g.H0 H' g.O v (.bl false)) → (dfr = true → Rp K H' g.Old v (.bl false) ∧ (fr = true → Fr K g.H0 H' g.Old v (.bl false))) → D.rt v H' := h1
      exact h1 (.bl false) H1 (r.mono s1).same (.bl _) (fun _ => nofr fun _ z => nomatch z) fun _ => ⟨.bl _, fun _ => nofr fun _ z => nomatch z⟩
    | false =>
      rw [if_neg (by simp)]
      exact guard_go (r.mono s1) h1 fun H2 s2 r2 h2 => k H2 (s1.trans s2) r2 h2
theorem kill_go {D2 : Ends} {T : TS} {g : Gh} {ρ ρ0 : Env} {σ0 : L2.St} {o : O} {H0 H1 : Hp} {i m : Nat} {w : V} {t : Tr} (r0 : Rel K g σ0 ρ0 H0) (es : σ = σ0.set i (some w)) (er : ρ = ρ0.set i none) (hσ : σ[i]? = some (some w)) (hw : Rp K H1 (fun a => H0 a ≠ none) w t) :
    ∀ {ks : List (List Nat × Ex)} {H : Hp} {j : Nat}, j + ks.length ≤ m → Same H0 H → Pre H1 H j → EndS mg K W fr dfr g F' FL D (killO c t m ks ρ o) → (∀ H2, Same H0 H2 → EndS mg K W fr dfr g F' FL D o → T D2 σ H2) → tKs mg K tb c W i ks T D2 σ H
  | [], H, j, hj, s, p, h, k => k H s h
  | x :: ks, H, j, hj, s, p, h, k => by
    have h : EndS mg K W fr dfr g F' FL D (match pathT t x.1 with
      | some (.lst ts) => if ts.length + m < SZ then (evE c x.2 ρ).out ρ fun _ => killO c t m ks ρ o else .no
      | _ => .no) := h
    cases e1 : pathT t x.1 with
    | none => rw [e1] at h; exact h.elim
    | some u =>
      rw [e1] at h
      cases u with
      | lst ts =>
        have h : EndS mg K W fr dfr g F' FL D (if ts.length + m < SZ then (evE c x.2 ρ).out ρ fun _ => killO c t m ks ρ o else .no) := h
        by_cases hz : ts.length + m < SZ
        · rw [if_pos hz] at h
          show tPth K i x.1 σ H _
          refine pth_go hσ hw p _ e1 fun y hy => ?_
          cases hy with
          | lst q1 n rr =>
            rename_i a vs
            obtain ⟨ms, hm, hl⟩ := p.l _ _ q1
            have rl : Rel K g σ ρ H := by
              rw [es, er]
              exact (r0.mono s).setNone
            refine ⟨.inl ⟨rfl, _, SqL.of hm⟩, g, ρ, rl, (go_out rl h).imp fun z _ h2 H2 u s2 _ => ?_⟩
            have hm2 := s2 _ _ hm
            refine ⟨a, vs ++ ms, u, rfl, rfl, hm2, ?_, ?_⟩
            · rw [List.length_append, rr.length, ← SZ_eq]
              rw [List.length_cons] at hj
              omega
            · have hn : H0 a = none := by
                cases q : H0 a with
                | none => rfl
                | some o => exact absurd (by rw [q]; simp) n
              have s3 : Same H0 (L2.upd H2 a (.lst ((vs ++ ms) ++ [u]))) := fun b o e => by
                have hb : b ≠ a := fun z => by
                  subst z
                  rw [hn] at e
                  cases e
                rw [L2.upd_ne hb]
                exact s2 _ _ (s _ _ e)
              exact kill_go r0 es er hσ hw (by rw [List.length_cons] at hj; omega) s3 ((p.mono s2).write q1 hm2 hl) h2 k
        · rw [if_neg hz] at h
          exact h.elim
      | non => exact h.elim
      | bl b => exact h.elim
      | int n => exact h.elim
      | str s => exact h.elim
      | tup ts => exact h.elim
      | scr ns => exact h.elim
theorem kil_go {i : Nat} {e : Ex} {gs : List Ex} {d : Option Ex} {ks : List (List Nat × Ex)} {rest : Sts} (hi1 : i < 1000) (hE : esc e = [])
    (h : rdS mg K W fr dfr F F' FL (execs c (.kil i e gs d ks rest)) D σ H) :
    tSeq (tAsg (rdE mg K tb c W e) (gName i)) (tG mg K c W gs (tKD mg K tb c W i d ks (rdS mg K W fr dfr F F' FL (execs c rest)))) D σ H := by
  obtain ⟨g, ρ, r, hF, he⟩ := h
  have hin : ∃ o, ρ[i]? = some o := by
    have he : EndS mg K W fr dfr g F' FL D (inR ρ[i]? _) := he
    cases q : ρ[i]? with
    | none => rw [q] at he; exact he.elim
    | some o => exact ⟨o, rfl⟩
  obtain ⟨o0, ho0⟩ := hin
  have hil : i < σ.length := by
    rw [← r.len]
    exact (List.getElem?_eq_some_iff.mp ho0).1
  have he : EndS mg K W fr dfr g F' FL D (inR ρ[i]? ((evE c e ρ).out ρ fun t => guardO c gs (ρ.set i (some t)) (killD c t d ks (ρ.set i (some t)) (ρ.set i none) (execs c rest (ρ.set i none))))) := he
  rw [ho0] at he
  have he : EndS mg K W fr dfr g F' FL D ((evE c e ρ).out ρ fun t => guardO c gs (ρ.set i (some t)) (killD c t d ks (ρ.set i (some t)) (ρ.set i none) (execs c rest (ρ.set i none)))) := he
  refine ⟨g.allOld H, ρ, r.allOld, (go_out r he).imp fun t _ h1 H1 w s1 z => ?_⟩
  have zr := z.rp
  rw [hE] at zr
  have zn := allOld_new zr
  have za : Rp K H1 (g.Av []) w t := zn.less fun a q => r.av [] a q
  have r1 : Rel K (g.stor [] [i]) (σ.set i (some w)) (ρ.set i (some t)) H1 := (r.mono s1).stor (upd_one (i := i) r.len za)
  have hσ : (σ.set i (some w))[i]? = some (some w) := List.getElem?_set_self hil
  have sO : SamO (g.stor [] [i]) g := ⟨stor_O.1, stor_O.2.2⟩
  have sO' : SamO g (g.stor [] [i]) := ⟨stor_O.1.symm, stor_O.2.2.symm⟩
  have h0 : Same g.H0 (g.stor [] [i]).H0 := by rw [stor_O.2.1]; exact Same.refl _
  have h0' : Same (g.stor [] [i]).H0 g.H0 := by rw [stor_O.2.1]; exact Same.refl _
  show tG mg K c W gs _ _ (σ.set i (some w)) H1
  refine guard_go r1 (h1.of sO h0) fun H2 s2 r2 h2 => ?_
  have fin : ∀ H3, Same H H3 → EndS mg K W fr dfr g F' FL D (execs c rest (ρ.set i none)) → rdS mg K W fr dfr F F' FL (execs c rest) D (σ.set i (some w)) H3 := fun H3 s3 h3 => ⟨g, ρ.set i none, (r.mono s3).setNone, hF, h3⟩
  cases d with
  | none =>
    have h2 : EndS mg K W fr dfr (g.stor [] [i]) F' FL D (killO c t ks.length ks (ρ.set i none) (execs c rest (ρ.set i none))) := h2
    exact kill_go (m := ks.length) r rfl rfl hσ zn (j := 0) (by omega) (s1.trans s2) (Pre.of s2) (h2.of sO' h0') fin
  | some d =>
    have h2 : EndS mg K W fr dfr (g.stor [] [i]) F' FL D ((evC c d (ρ.set i (some t))).out (ρ.set i (some t)) fun b => if b then killO c t ks.length ks (ρ.set i none) (execs c rest (ρ.set i none)) else execs c rest (ρ.set i none)) := h2
    refine ⟨g.stor [] [i], ρ.set i (some t), r2, (go_out r2 h2).imp fun b _ h3 H3 s3 => ?_⟩
    cases b with
    | true =>
      rw [if_pos rfl] at h3 ⊢
      exact kill_go (m := ks.length) r rfl rfl hσ zn (j := 0) (by omega) ((s1.trans s2).trans s3) (Pre.of (s2.trans s3)) (h3.of sO' h0') fin
    | false =>
      rw [if_neg (by simp)] at h3 ⊢
      exact fin H3 ((s1.trans s2).trans s3) (h3.of sO' h0')
end
end Jr

/-! All statements: the induction. -/
namespace Jr
open PySem PySem.Spec PyProof.Rows L2
theorem mS_set {tb : Tb} {N : List Str} {sc : Scope} {i} {e} {s} : mS tb N sc (.set i e) s = (match s with
    | .Assign [.Name x py] v _ => decide (N[i]? = some x) && locB sc x && mE tb N sc e v && (swF sc x py v || swT sc x py v)
    | _ => false) := rfl
theorem mS_setp {tb : Tb} {N : List Str} {sc : Scope} {p} {e} {s} : mS tb N sc (.setp p e) s = (match s with
    | .Assign [tg] v _ => isTupE tg && mP N sc p tg && mE tb N sc e v && nsw v
    | _ => false) := rfl
theorem mS_par {tb : Tb} {N : List Str} {sc : Scope} {i} {j} {a} {b} {s} : mS tb N sc (.par i j a b) s = (match s with
    | .Assign [.Tuple [.Name x px, .Name y py] _ _] (.Tuple [v, w] _ _) _ => decide (N[i]? = some x) && decide (N[j]? = some y) && decide (i ≠ j) && decide (x ≠ y) && decide (sc.names.lookup x = some .local) && decide (sc.names.lookup y = some .local) && (py.line == px.line) &&
      notStar v && notStar w && !([v, w].all (foldedForSure 8)) && !([v, w].all (constantsAlone 8)) && mE tb N sc a v && mE tb N sc b w
    | _ => false) := rfl
theorem mS_seti {tb : Tb} {N : List Str} {sc : Scope} {i} {k} {e} {s} : mS tb N sc (.seti i k e) s = (match s with
    | .Assign [.Subscript (.Name x _) y _] v _ => varB N sc i x && notSlice y && noComp v && mE tb N sc k y && mE tb N sc e v
    | _ => false) := rfl
theorem mS_aug {tb : Tb} {N : List Str} {sc : Scope} {i} {o} {e} {s} : mS tb N sc (.aug i o e) s = (match s with
    | .AugAssign (.Name x _) op v _ => decide (N[i]? = some x) && locB sc x && decide (op = boO o) && augO o && mE tb N sc e v
    | _ => false) := rfl
theorem mS_app {tb : Tb} {N : List Str} {sc : Scope} {i} {e} {s} : mS tb N sc (.app i e) s = (match s with
    | .Expr (.Call (.Attribute (.Name x _) nm apos) [v] [] cpos) _ => decide (nm = ("append" : Str)) && varB N sc i x && notStar v && mE tb N sc e v && (apos.endLine == cpos.line)
    | _ => false) := rfl
theorem mS_ife {tb : Tb} {N : List Str} {sc : Scope} {d} {a} {b} {s} : mS tb N sc (.ife d a b) s = (match s with
    | .If z x y _ => mC tb N sc d z && mSs tb N sc a x && mSs tb N sc b y
    | _ => false) := rfl
theorem mS_for {tb : Tb} {N : List Str} {sc : Scope} {fl} {p} {it} {b} {s} : mS tb N sc (.for fl p it b) s = (match s with
    | .For tg iter x [] _ => mI tb N sc it iter && tgOk it tg && notSet iter && mP N sc p tg && mSs tb N sc b x
    | _ => false) := rfl
theorem mS_whl {tb : Tb} {N : List Str} {sc : Scope} {fl} {d} {b} {s} : mS tb N sc (.whl fl d b) s = (match s with
    | .While z x [] _ => mC tb N sc d z && mSs tb N sc b x
    | _ => false) := rfl
theorem mS_ret {tb : Tb} {N : List Str} {sc : Scope} {e} {s} : mS tb N sc (.ret e) s = (match s with
    | .Return (some v) _ => mE tb N sc e v
    | _ => false) := rfl
theorem mS_retn {tb : Tb} {N : List Str} {sc : Scope}  {s} : mS tb N sc (.retn ) s = (match s with
    | .Return none _ => true
    | _ => false) := rfl
theorem mS_brk {tb : Tb} {N : List Str} {sc : Scope}  {s} : mS tb N sc (.brk ) s = (match s with
    | .Break _ => true
    | _ => false) := rfl
theorem mS_cnt {tb : Tb} {N : List Str} {sc : Scope}  {s} : mS tb N sc (.cnt ) s = (match s with
    | .Continue _ => true
    | _ => false) := rfl
theorem mS_pass {tb : Tb} {N : List Str} {sc : Scope}  {s} : mS tb N sc (.pass ) s = (match s with
    | .Pass _ => true
    | _ => false) := rfl
theorem mS_expr {tb : Tb} {N : List Str} {sc : Scope} {e} {s} : mS tb N sc (.expr e) s = (match s with
    | .Expr v _ => mE tb N sc e v && noComp v
    | _ => false) := rfl
theorem mS_rai {tb : Tb} {N : List Str} {sc : Scope} {y} {s} : mS tb N sc (.rai y) s = (match s with
    | .Raise (some (.Call (.Name x _) [.Constant (.str _) _ _] [] _)) none _ => decide (x = y) && glB sc x && decide (x ∈ tb.exs)
    | _ => false) := rfl
theorem mS_trx {tb : Tb} {N : List Str} {sc : Scope} {hs} {tbl} {b} {s} : mS tb N sc (.trx hs tbl b) s = (match s with
    | .Try body (h :: es) [] [] _ => mHds tb N sc hs (h :: es) && tblB tb hs tbl && mSs tb N sc b body
    | _ => false) := rfl
theorem chk_rai {tb : Tb} {fr dfr : Bool} {FL F : List Nat} {w0} : chk tb fr dfr FL F (.rai w0) = (some F) := rfl
theorem chk_trx {tb : Tb} {fr dfr : Bool} {FL F : List Nat} {w0} {w1} {b} : chk tb fr dfr FL F (.trx w0 w1 b) = chks tb fr dfr FL F b := rfl
theorem SOk.tr {tb : Tb} {c : Ctx} {k : Nat} {N : List Str} {W W' : WX} {X : Cx} {sc : Scope} (x : SOk tb c k N W X sc) {pn : List (Addr × Obj)} {xe : Value → Shared → Prop} (tk : Takes (X.tr pn xe) W') (pas : PassesOwn (model X.prog X.w) X.A X.env xe) : SOk tb c k N W' (X.tr pn xe) sc where
  x := { hN := x.x.hN, sz := x.x.sz, nd := x.x.nd, hsc := x.x.hsc, calm := x.x.calm, tk := tk, room := x.x.room, grd := x.x.grd, loc := x.x.loc, cal := x.x.cal, bi := x.x.bi, gl := x.x.gl, exs := x.x.exs, exm := x.x.exm, kit := x.x.kit }
  kd := x.kd
  pas := pas
  stk := x.stk
  frm := x.frm
theorem mSs_kil {tb : Tb} {N : List Str} {sc : Scope} {i} {e} {gs} {d} {ks} {r} {ss} : mSs tb N sc (.kil i e gs d ks r) ss = (match ss with
    | .Assign [.Name x py] v _ :: xs => decide (N[i]? = some x) && locB sc x && mE tb N sc e v && swF sc x py v && (match mG tb N sc gs xs with
      | some ys => (match d with
        | none => (match mK tb N sc i ks ys with
          | some zs => mSs tb N sc r zs
          | none => false)
        | some d => (match ys with
          | .If z ws [] _ :: zs => mC tb N sc d z && (match mK tb N sc i ks ws with
            | some [] => true
            | _ => false) && mSs tb N sc r zs
          | _ => false))
      | none => false)
    | _ => false) := rfl
theorem chks_kil {tb : Tb} {fr dfr : Bool} {FL F : List Nat} {i} {e} {gs} {d} {ks} {r} : chks tb fr dfr FL F (.kil i e gs d ks r) = (if (esc e).isEmpty then chks tb fr dfr FL F r else none) := rfl
theorem mSs_nil {tb : Tb} {N : List Str} {sc : Scope}  {ss} : mSs tb N sc (.nil ) ss = (ss.isEmpty) := rfl
theorem mSs_cons {tb : Tb} {N : List Str} {sc : Scope} {s} {r} {ss} : mSs tb N sc (.cons s r) ss = (match ss with
    | x :: xs => mS tb N sc s x && mSs tb N sc r xs
    | [] => false) := rfl
theorem chk_set {tb : Tb} {fr dfr : Bool} {FL F : List Nat} {i} {e} : chk tb fr dfr FL F (.set i e) = (some ((if fresh tb e then [i] else []) ++ (cIf (clB F (esc e)) [i] ++ cutF F ([i].map cc ++ (esc e ++ [i]))))) := rfl
theorem chk_setp {tb : Tb} {fr dfr : Bool} {FL F : List Nat} {p} {e} : chk tb fr dfr FL F (.setp p e) = (some (cIf (clB F (esc e)) p.slots ++ cutF F (p.slots.map cc ++ (esc e ++ p.slots)))) := rfl
theorem chk_par {tb : Tb} {fr dfr : Bool} {FL F : List Nat} {i} {j} {a} {b} : chk tb fr dfr FL F (.par i j a b) = (some (cIf (clB F (esc a ++ esc b)) [i, j] ++ cutF F ([i, j].map cc ++ ((esc a ++ esc b) ++ [i, j])))) := rfl
theorem chk_seti {tb : Tb} {fr dfr : Bool} {FL F : List Nat} {i} {w0} {e} : chk tb fr dfr FL F (.seti i w0 e) = (if decide (i ∈ F) && !decide (i ∈ esc e) then some (cutF F (esc e ++ if clB F (esc e) then [] else [cc i])) else none) := rfl
theorem chk_aug {tb : Tb} {fr dfr : Bool} {FL F : List Nat} {w0} {w1} {w2} : chk tb fr dfr FL F (.aug w0 w1 w2) = (some F) := rfl
theorem chk_app {tb : Tb} {fr dfr : Bool} {FL F : List Nat} {i} {e} : chk tb fr dfr FL F (.app i e) = (if decide (i ∈ F) && !decide (i ∈ esc e) then some (cutF F (esc e ++ if clB F (esc e) then [] else [cc i])) else none) := rfl
theorem chk_ife {tb : Tb} {fr dfr : Bool} {FL F : List Nat} {w0} {a} {b} : chk tb fr dfr FL F (.ife w0 a b) = (match chks tb fr dfr FL F a, chks tb fr dfr FL F b with
    | some G, some G' => some (G.filter fun i => decide (i ∈ G'))
    | _, _ => none) := rfl
theorem chk_for {tb : Tb} {fr dfr : Bool} {FL F : List Nat} {fl} {p} {it} {b} : chk tb fr dfr FL F (.for fl p it b) = (if subF fl (cutF F ((escL it ++ p.slots) ++ if clB F (escT it) then [] else p.slots.map cc)) then (match chks tb fr dfr fl (cIf (clB F (escT it)) p.slots ++ fl) b with
    | some G => if subF fl G then some fl else none
    | none => none) else none) := rfl
theorem chk_whl {tb : Tb} {fr dfr : Bool} {FL F : List Nat} {fl} {w0} {b} : chk tb fr dfr FL F (.whl fl w0 b) = (if subF fl F then (match chks tb fr dfr fl fl b with
    | some G => if subF fl G then some fl else none
    | none => none) else none) := rfl
theorem chk_ret {tb : Tb} {fr dfr : Bool} {FL F : List Nat} {e} : chk tb fr dfr FL F (.ret e) = (if (!fr || fresh tb e || ownRet F e) && (!dfr || clB F (esc e)) then some F else none) := rfl
theorem chk_retn {tb : Tb} {fr dfr : Bool} {FL F : List Nat}  : chk tb fr dfr FL F (.retn ) = (some F) := rfl
theorem chk_brk {tb : Tb} {fr dfr : Bool} {FL F : List Nat}  : chk tb fr dfr FL F (.brk ) = (if subF FL F then some F else none) := rfl
theorem chk_cnt {tb : Tb} {fr dfr : Bool} {FL F : List Nat}  : chk tb fr dfr FL F (.cnt ) = (if subF FL F then some F else none) := rfl
theorem chk_pass {tb : Tb} {fr dfr : Bool} {FL F : List Nat}  : chk tb fr dfr FL F (.pass ) = (some F) := rfl
theorem chk_expr {tb : Tb} {fr dfr : Bool} {FL F : List Nat} {w0} : chk tb fr dfr FL F (.expr w0) = (some F) := rfl
theorem chks_nil {tb : Tb} {fr dfr : Bool} {FL F : List Nat}  : chks tb fr dfr FL F (.nil ) = (some F) := rfl
theorem chks_cons {tb : Tb} {fr dfr : Bool} {FL F : List Nat} {s} {r} : chks tb fr dfr FL F (.cons s r) = (match chk tb fr dfr FL F s with
    | some G => chks tb fr dfr FL G r
    | none => none) := rfl

theorem sw_par {x y : Str} {px py pt : Pos} {kt k2 : Nat} {pt2 : Pos} {v w : Expr} {sc : Scope} {env : PySem.Env} (hs : env.scope = sc) (hk : sc.kind = .function) (hxy : x ≠ y) (hx : sc.names.lookup x = some .local) (hy : sc.names.lookup y = some .local) (hl : (py.line == px.line) = true)
    (nv : notStar v = true) (nw : notStar w = true) (h1 : [v, w].all (foldedForSure 8) = false) (h2 : [v, w].all (constantsAlone 8) = false) :
    swappedStores [.Tuple [.Name x px, .Name y py] kt pt] (.Tuple [v, w] k2 pt2) env = pure (some [x, y]) := by
  have kx : env.kindOf x = some .local := by rw [← hs] at hx; exact hx
  have ky : env.kindOf y = some .local := by rw [← hs] at hy; exact hy
  have hb : env.blockKind = .function := by unfold Env.blockKind; rw [hs, hk]; rfl
  have hst : ([v, w].any fun | .Starred .. => true | _ => false) = false := by
    cases v <;> first
      | (cases nv; done)
      | (cases w <;> first | (cases nw; done) | rfl)
  have hle : py.line = px.line := by simpa using hl
  have hd : [x, y].eraseDups.length = 2 := by
    have hne : (y == x) = false := by simpa using fun e => hxy e.symm
    simp [List.eraseDups_cons, hne]
  unfold swappedStores
  simp only [List.length_cons, List.length_nil, hst, h1, h2, List.head?_cons, Option.map_some, Option.getD_some, Expr.pos, List.filterMap_cons, List.filterMap_nil, kx, ky, hle, hb, beq_self_eq_true, Bool.and_self, if_true, hd]
  refine (if_neg (by decide)).trans ((if_neg fun q => absurd (hst.symm.trans q) (by decide)).trans rfl)
theorem nottT {b : Bool} (h : (!b) = true) : b = false := by
  cases b with
  | true => cases h
  | false => rfl
theorem asg_one {tg : Expr} {env : PySem.Env} (h : isTupE tg = true) : (assignEach [tg] env).map (·.2) = [assign tg env] := by
  cases tg <;> first
    | (cases h; done)
    | rfl
theorem sub_assign {x y : Expr} {pos : Pos} {env : PySem.Env} (h : notSlice y = true) (v : Value) : assign (.Subscript x y pos) env v = (do
      let ov ← holding [v] (eval x env)
      let iv ← holding [v, ov] (eval y env)
      standAt pos
      holding [v, ov, iv] (setItem ov iv v)
      release [v, ov, iv] []) := by
  cases y <;> first
    | (cases h; done)
    | rfl
theorem sub_sole {x y v : Expr} {pos : Pos} {l : Nat} {env : PySem.Env} (h : noComp v = true) : swapsWithSole [.Subscript x y pos] v l env = pure false := by
  cases v <;> first
    | (cases h; done)
    | rfl
theorem sub_stores {x y v : Expr} {pos : Pos} {env : PySem.Env} (h : noComp v = true) : swappedStores [.Subscript x y pos] v env = pure none := by
  cases v <;> first
    | (cases h; done)
    | rfl
theorem drop_false {v : Expr} {l : Nat} {env : PySem.Env} (h : noComp v = true) : swapsWith v none l env = pure false := by
  cases v <;> first
    | (cases h; done)
    | rfl
theorem rdE_mono {mg : Str → Option Value} {K : PySem.W.Frag} {tb : Tb} {c : Ctx} {W : WX} {e : Ex} {σ : L2.St} {H : Hp} {Q Q' : VK} (h : rdE mg K tb c W e σ H Q) (i : ∀ v H, Q v H → Q' v H) : rdE mg K tb c W e σ H Q' := by
  obtain ⟨g, ρ, r, q⟩ := h
  exact ⟨g, ρ, r, q.imp fun t _ q1 H1 w s z => i _ _ (q1 H1 w s z)⟩
section
variable (tb : Tb) (c : Ctx) (N : List Str)
def GS (s : St) : Prop := ∀ (k : Nat) (W : WX) (X : Cx) (sc : Scope) (st : Stmt) (fr dfr : Bool) (FL F F' : List Nat), SOk tb c k N W X sc → mS tb N sc s st = true → chk tb fr dfr FL F s = some F' → PS X st (rdS X.mg X.K W fr dfr F F' FL (exec c s))
def GSs (s : Sts) : Prop := ∀ (k : Nat) (W : WX) (X : Cx) (sc : Scope) (st : List Stmt) (fr dfr : Bool) (FL F F' : List Nat), SOk tb c k N W X sc → mSs tb N sc s st = true → chks tb fr dfr FL F s = some F' → PSs X st (rdS X.mg X.K W fr dfr F F' FL (execs c s))
end
section
variable {tb : Tb} {c : Ctx} {N : List Str}
theorem loc_of {k : Nat} {W : WX} {X : Cx} {sc : Scope} {y : Str} (xo : SOk tb c k N W X sc) (h : locB sc y = true) : L2.Loc X.env.scope y ∧ (X.fn y = true ∨ X.env.scope.names.lookup y = some .local) := by
  rw [xo.x.hsc]
  exact xo.x.loc y h
theorem few_of {v : Expr} {env : PySem.Env} {cpos : Pos} (h : notStar v = true) : ((backTo cpos (starEach [v] env)).all (fun x => !x.1) && (backToKw cpos (keywordEach [] env)).all (fun x => x.1.isSome)
      && decide (([v] : List Expr).length + ([] : List Keyword).length + (if ([] : List Keyword).isEmpty then 0 else 1) < 30)) = true := by
  cases v <;> first
    | (cases h; done)
    | rfl
theorem mem_app {fr : Bool} {b1 b2 : Bool} {G : Option (List Nat)} {F' : List Nat} {L : List Nat} (h : (if (b1 && b2) = true then some L else none) = some F') : b1 = true ∧ b2 = true ∧ L = F' := by
  split at h
  · rename_i q
    rw [Bool.and_eq_true] at q
    cases h
    exact ⟨q.1, q.2, rfl⟩
  · cases h
variable (hl : ∀ (f : Nat) (d : Fn), tb.fns[f]? = some d → ∀ ts, ts.length ≠ d.np → c.cal f ts = .no)
include hl
theorem guards_ok {k : Nat} {W : WX} {X : Cx} {sc : Scope} (xo : SOk tb c k N W X sc) {T : TS} : ∀ {gs : List Ex} {ss ys : List Stmt}, mG tb N sc gs ss = some ys → PSs X ys T → PSs X ss (tG X.mg X.K c W gs T)
  | [], ss, ys, h, q => by
    cases h
    exact q
  | g :: gs, ss, ys, h, q => by
    unfold mG at h
    split at h
    · split at h
      · rename_i h1
        rw [Bool.and_eq_true] at h1
        obtain ⟨h0, h1⟩ := h1
        cases nottT h0
        exact pss_cons (ps_if ((all_ok hl g).2 _ _ _ _ _ _ xo.x h1).1 (pss_one (ps_ret pe_bl)) pss_nil) (guards_ok xo h q)
      · cases h
    · cases h
omit hl in
theorem pth_base {sc : Scope} {i : Nat} {p : List Nat} {o : Expr} {nm : Str} {env : PySem.Env} (h : mPth N sc i p o = true) : attributeBase o nm env (eval o env) = eval o env := by
  cases p <;> (unfold mPth at h; split at h <;> first | rfl | cases h)
theorem kills_ok {k : Nat} {W : WX} {X : Cx} {sc : Scope} (xo : SOk tb c k N W X sc) {T : TS} {i : Nat} : ∀ {ks : List (List Nat × Ex)} {ss ys : List Stmt}, mK tb N sc i ks ss = some ys → PSs X ys T → PSs X ss (tKs X.mg X.K tb c W i ks T)
  | [], ss, ys, h, q => by
    cases h
    exact q
  | x :: ks, ss, ys, h, q => by
    unfold mK at h
    split at h
    · split at h
      · rename_i h1
        simp only [Bool.and_eq_true, decide_eq_true_eq] at h1
        obtain ⟨⟨⟨⟨h1, h2⟩, h3⟩, h4⟩, h5⟩ := h1
        subst h1
        exact pss_cons (ps_expr (pe_bm PySem.F.plainAttrs_list PySem.F.slot_list_append PySem.F.type_list_append mt_append (pth_ok xo.x h2) (pa_cons ((all_ok hl x.2).1 _ _ _ _ _ _ xo.x h4) pa_nil (star_cons h3))
          (pth_base h2) (few_of h3) h5 (star_cons h3) rfl)) (kills_ok xo h q)
      · cases h
    · cases h
mutual
theorem st_ok : (s : St) → GS tb c N s
  | .set i e => fun k W X sc st fr dfr FL F F' xo h hc => by
    rw [mS_set] at h; split at h
    · simp only [Bool.and_eq_true, decide_eq_true_eq] at h
      obtain ⟨⟨⟨h1, h2⟩, h3⟩, h4⟩ := h
      rw [chk_set] at hc
      cases hc
      have hi1 : i < 1000 := by
        have := (List.getElem?_eq_some_iff.mp h1).1
        have := xo.x.sz
        omega
      obtain ⟨l1, l2⟩ := loc_of xo h2
      rw [Bool.or_eq_true] at h4
      rcases h4 with h4 | h4
      · exact (ps_set (by rw [xo.x.hN]; exact xo.x.nd) (by rw [xo.x.hN]; exact h1) l1 ((all_ok hl e).1 _ _ _ _ _ _ xo.x h3) (sw_false xo.x.hsc h4) l2).to fun D σ H z => set_go hi1 z
      · exact (setLc_any hl xo h1 h4 h3).to fun D σ H z => set_go hi1 z
    · cases h
  | .setp p e => fun k W X sc st fr dfr FL F F' xo h hc => by
    rw [mS_setp] at h; split at h
    · simp only [Bool.and_eq_true] at h
      obtain ⟨⟨⟨h1, h2⟩, h3⟩, h4⟩ := h
      rw [chk_setp] at hc
      cases hc
      exact (ps_asg ((all_ok hl e).1 _ _ _ _ _ _ xo.x h3) (p_ok xo.x h2) (sole_false h1) (stores_none h1 h4) (asg_one h1)).to fun D σ H z => setp_go z
    · cases h
  | .par i j a b => fun k W X sc st fr dfr FL F F' xo h hc => by
    rw [mS_par] at h; split at h
    · simp only [Bool.and_eq_true, decide_eq_true_eq] at h
      obtain ⟨⟨⟨⟨⟨⟨⟨⟨⟨⟨⟨⟨h1, h2⟩, h3⟩, h4⟩, h5⟩, h6⟩, h7⟩, h8⟩, h9⟩, g1⟩, g2⟩, g3⟩, g4⟩ := h
      rw [chk_par] at hc
      cases hc
      refine (ps_par xo.x.calm (by rw [xo.x.hN]; exact xo.x.nd) (by rw [xo.x.hN]; exact h1) (by rw [xo.x.hN]; exact h2) h3 (by rw [xo.x.hsc]; exact h5) (by rw [xo.x.hsc]; exact h6)
        (pa_cons ((all_ok hl a).1 _ _ _ _ _ _ xo.x g3) (pa_cons ((all_ok hl b).1 _ _ _ _ _ _ xo.x g4) pa_nil (star_cons h9)) (star_cons h8)) (sw_par xo.x.hsc xo.kd h4 h5 h6 h7 h8 h9 (nottT g1) (nottT g2))).to fun D σ H z => ?_
      have q := par_go (tb := tb) z
      exact rdE_mono q fun v H1 q1 => rdE_mono q1 fun w H2 q2 => ⟨v, w, rfl, q2⟩
    · cases h
  | .seti i kx e => fun k W X sc st fr dfr FL F F' xo h hc => by
    rw [mS_seti] at h; split at h
    · simp only [Bool.and_eq_true] at h
      obtain ⟨⟨⟨⟨h1, h2⟩, h3⟩, h4⟩, h5⟩ := h
      rw [chk_seti] at hc
      obtain ⟨c1, c2, rfl⟩ := mem_app (fr := fr) (G := none) hc
      unfold varB at h1
      simp only [Bool.and_eq_true, decide_eq_true_eq] at h1
      refine (ps_asg ((all_ok hl e).1 _ _ _ _ _ _ xo.x h5) (pg_sub (pe_var (i := i) (by rw [xo.x.hN]; exact h1.1.1.1) (xo.x.vis h1.1.1.2) (by simpa using h1.1.2) (by simpa using h1.2)) ((all_ok hl kx).1 _ _ _ _ _ _ xo.x h4) set_list (sub_assign h2))
        (sub_sole h3) (sub_stores h3) rfl).to fun D σ H z => seti_go (of_decide_eq_true c1) (by simpa using c2) z
    · cases h
  | .aug i o e => fun k W X sc st fr dfr FL F F' xo h hc => by
    rw [mS_aug] at h; split at h
    · simp only [Bool.and_eq_true, decide_eq_true_eq] at h
      obtain ⟨⟨⟨⟨h1, h2⟩, h3⟩, h3'⟩, h4⟩ := h
      subst h3
      rw [chk_aug] at hc
      cases hc
      obtain ⟨l1, l2⟩ := loc_of xo h2
      have hE := (all_ok hl e).1 _ _ _ _ _ _ xo.x h4
      have nd : X.N.Nodup := by rw [xo.x.hN]; exact xo.x.nd
      rw [← xo.x.hN] at h1
      cases o with
      | add => exact (ps_aug nd h1 l1 hE ip_add l2).to fun D σ H z => aug_go (o := .add) (fun j hj => hj) z
      | sub => exact (ps_aug nd h1 l1 hE ip_sub l2).to fun D σ H z => aug_go (o := .sub) (fun j hj => hj) z
      | _ => cases h3'
    · cases h
  | .app i e => fun k W X sc st fr dfr FL F F' xo h hc => by
    rw [mS_app] at h; split at h
    · simp only [Bool.and_eq_true, decide_eq_true_eq] at h
      obtain ⟨⟨⟨⟨h1, h2⟩, h3⟩, h4⟩, h5⟩ := h
      subst h1
      rw [chk_app] at hc
      obtain ⟨c1, c2, rfl⟩ := mem_app (fr := fr) (G := none) hc
      unfold varB at h2
      simp only [Bool.and_eq_true, decide_eq_true_eq] at h2
      refine (ps_expr (pe_bm PySem.F.plainAttrs_list PySem.F.slot_list_append PySem.F.type_list_append mt_append (pe_var (i := i) (by rw [xo.x.hN]; exact h2.1.1.1) (xo.x.vis h2.1.1.2) (by simpa using h2.1.2) (by simpa using h2.2)) (pa_cons ((all_ok hl e).1 _ _ _ _ _ _ xo.x h4) pa_nil (star_cons h3))
        rfl (few_of h3) h5 (star_cons h3) rfl)).to fun D σ H z => ?_
      obtain ⟨v, hv, ty, q⟩ := app_go (tb := tb) (of_decide_eq_true c1) (by simpa using c2) z
      exact ⟨v, hv, ty, q⟩
    · cases h
  | .ife d a b => fun k W X sc st fr dfr FL F F' xo h hc => by
    rw [mS_ife] at h; split at h
    · simp only [Bool.and_eq_true] at h
      obtain ⟨⟨h1, h2⟩, h3⟩ := h
      rw [chk_ife] at hc
      split at hc
      · rename_i G G' e1 e2
        cases hc
        exact (ps_if ((all_ok hl d).2 _ _ _ _ _ _ xo.x h1).1 (sts_ok a _ _ _ _ _ _ _ _ _ _ xo h2 e1) (sts_ok b _ _ _ _ _ _ _ _ _ _ xo h3 e2)).to fun D σ H z => if_go (fun j hj => by
          rw [List.mem_filter] at hj
          exact ⟨hj.1, of_decide_eq_true hj.2⟩) z
      · cases hc
    · cases h
  | .for fl p it b => fun k W X sc st fr dfr FL F F' xo h hc => by
    rw [mS_for] at h; split at h
    · simp only [Bool.and_eq_true] at h
      obtain ⟨⟨⟨⟨h1, h2⟩, h3⟩, h4⟩, h5⟩ := h
      rw [chk_for] at hc
      generalize hX : cutF F ((escL it ++ p.slots) ++ if clB F (escT it) then [] else p.slots.map cc) = CX at hc
      split at hc
      · rename_i q1
        split at hc
        · rename_i G e1
          split at hc
          · rename_i q2
            cases hc
            exact (ps_for xo.pas xo.x.calm (it_ok hl it _ _ _ _ _ _ _ xo.x h1 h2) (p_ok xo.x h4) (sts_ok b _ _ _ _ _ _ _ _ _ _ xo h5 e1) (folded h3 _)).to fun D σ H z => for_go (fun j hj => mem_cutF.mp (by rw [hX]; exact subF_of q1 j hj)) (subF_of q2) z
          · cases hc
        · cases hc
      · cases hc
    · cases h
  | .whl fl d b => fun k W X sc st fr dfr FL F F' xo h hc => by
    rw [mS_whl] at h; split at h
    · simp only [Bool.and_eq_true] at h
      obtain ⟨h1, h2⟩ := h
      rw [chk_whl] at hc
      split at hc
      · rename_i q1
        split at hc
        · rename_i G e1
          split at hc
          · rename_i q2
            cases hc
            exact (ps_while xo.pas ((all_ok hl d).2 _ _ _ _ _ _ xo.x h1).1 (sts_ok b _ _ _ _ _ _ _ _ _ _ xo h2 e1)).to fun D σ H z => whl_go (subF_of q1) (subF_of q2) z
          · cases hc
        · cases hc
      · cases hc
    · cases h
  | .ret e => fun k W X sc st fr dfr FL F F' xo h hc => by
    rw [mS_ret] at h; split at h
    · rw [chk_ret] at hc
      split at hc
      · rename_i q
        cases hc
        rw [Bool.and_eq_true] at q
        obtain ⟨q, qd⟩ := q
        by_cases hq : (!fr || fresh tb e) = true
        · exact (ps_ret ((all_ok hl e).1 _ _ _ _ _ _ xo.x h)).to fun D σ H z => ret_go hq qd z
        · rw [Bool.or_eq_true] at q
          rcases q with q | q
          · exact absurd q hq
          · cases e with
            | var i =>
              rw [mE_var] at h; split at h
              · unfold varB at h
                simp only [Bool.and_eq_true, decide_eq_true_eq] at h
                exact (ps_ret (pe_var (i := i) (by rw [xo.x.hN]; exact h.1.1.1) (xo.x.vis h.1.1.2) (by simpa using h.1.2) (by simpa using h.2))).to fun D σ H z => retv_go (of_decide_eq_true q) qd z
              · cases h
            | _ => cases q
      · cases hc
    · cases h
  | .retn => fun k W X sc st fr dfr FL F F' xo h hc => by
    rw [mS_retn] at h; split at h
    · exact PS.to ps_retN fun D σ H z => retn_go z
    · cases h
  | .brk => fun k W X sc st fr dfr FL F F' xo h hc => by
    rw [mS_brk] at h; split at h
    · rw [chk_brk] at hc
      split at hc
      · rename_i q
        cases hc
        exact PS.to ps_break fun D σ H z => bk_go (subF_of q) z
      · cases hc
    · cases h
  | .cnt => fun k W X sc st fr dfr FL F F' xo h hc => by
    rw [mS_cnt] at h; split at h
    · rw [chk_cnt] at hc
      split at hc
      · rename_i q
        cases hc
        exact PS.to ps_continue fun D σ H z => ct_go (subF_of q) z
      · cases hc
    · cases h
  | .pass => fun k W X sc st fr dfr FL F F' xo h hc => by
    rw [mS_pass] at h; split at h
    · rw [chk_pass] at hc
      cases hc
      exact PS.to ps_pass fun D σ H z => nx_go (fun j hj => hj) z
    · cases h
  | .expr e => fun k W X sc st fr dfr FL F F' xo h hc => by
    rw [mS_expr] at h; split at h
    · rw [Bool.and_eq_true] at h
      rw [chk_expr] at hc
      cases hc
      exact (ps_expr ((all_ok hl e).1 _ _ _ _ _ _ xo.x h.1) (drop_false h.2)).to fun D σ H z => expr_go (fun j hj => hj) z
    · cases h
  | .rai y => fun k W X sc st fr dfr FL F F' xo h hc => by
    rw [mS_rai] at h; split at h
    · simp only [Bool.and_eq_true, decide_eq_true_eq] at h
      obtain ⟨⟨h1, h2⟩, h3⟩ := h
      subst h1
      obtain ⟨C, E⟩ := xo.x.exs _ h3
      obtain ⟨g1, g2⟩ := xo.x.glob h2
      exact (ps_raise xo.x.calm xo.x.tk (pmk_own PySem.F.excBase_ValueError E.q E.g E.k (raises_own E.b E.t) g1 g2)).to fun D σ H z => rai_go E.g z
    · cases h
  | .trx hs tbl b => fun k W X sc st fr dfr FL F F' xo h hc => by
    rw [mS_trx] at h; split at h
    · simp only [Bool.and_eq_true] at h
      obtain ⟨⟨h1, h2⟩, h3⟩ := h
      rw [chk_trx] at hc
      obtain ⟨l, k1, k2⟩ := cl_ok xo.x h1
      exact (ps_tryR (tB := fun W' => rdS X.mg X.K W' fr dfr F F' FL (execs c b)) xo.stk xo.frm (by rw [xo.x.hN]; exact xo.x.nd) xo.x.tk (fun W' pn xe tk pas => sts_ok b _ _ _ _ _ _ _ _ _ _ (xo.tr tk pas) h3 hc) k1).to fun D σ H z => trx_go xo.x k2 h2 z
    · cases h
theorem sts_ok : (s : Sts) → GSs tb c N s
  | .nil => fun k W X sc st fr dfr FL F F' xo h hc => by
    rw [mSs_nil, List.isEmpty_iff] at h
    subst h
    rw [chks_nil] at hc
    cases hc
    exact PSs.to pss_nil fun D σ H z => nx_go (fun j hj => hj) z
  | .cons s r => fun k W X sc st fr dfr FL F F' xo h hc => by
    rw [mSs_cons] at h; split at h
    · rw [Bool.and_eq_true] at h
      rw [chks_cons] at hc
      split at hc
      · rename_i G e1
        exact (pss_cons (st_ok s _ _ _ _ _ _ _ _ _ _ xo h.1 e1) (sts_ok r _ _ _ _ _ _ _ _ _ _ xo h.2 hc)).to fun D σ H z => seq_go z
      · cases hc
    · cases h
  | .kil i e gs d ks r => fun k W X sc st fr dfr FL F F' xo h hc => by
    rw [mSs_kil] at h; split at h
    · simp only [Bool.and_eq_true, decide_eq_true_eq] at h
      obtain ⟨⟨⟨⟨h1, h2⟩, h3⟩, h4⟩, h5⟩ := h
      rw [chks_kil] at hc
      split at hc
      · rename_i q
        have hE := List.isEmpty_iff.mp q
        have hiN := (List.getElem?_eq_some_iff.mp h1).1
        have hi1 : i < 1000 := by
          have := xo.x.sz
          omega
        obtain ⟨l1, l2⟩ := loc_of xo h2
        split at h5
        · rename_i ys e5
          have hR : PSs X ys (tKD X.mg X.K tb c W i d ks (rdS X.mg X.K W fr dfr F F' FL (execs c r))) := by
            split at h5
            · split at h5
              · rename_i zs e6
                exact kills_ok hl xo e6 (sts_ok r _ _ _ _ _ _ _ _ _ _ xo h5 hc)
              · cases h5
            · split at h5
              · simp only [Bool.and_eq_true] at h5
                obtain ⟨⟨g1, g2⟩, g3⟩ := h5
                split at g2
                · rename_i e6
                  have a1 := kills_ok hl xo e6 pss_nil
                  have a2 := fun pos => ps_if (pos := pos) ((all_ok hl _).2 _ _ _ _ _ _ xo.x g1).1 a1 pss_nil
                  have a3 := sts_ok r _ _ _ _ _ _ _ _ _ _ xo g3 hc
                  have a4 := fun pos => pss_cons (a2 pos) a3
                  exact a4 _
                · cases g2
              · cases h5
          exact (pss_cons (ps_set (by rw [xo.x.hN]; exact xo.x.nd) (by rw [xo.x.hN]; exact h1) l1 ((all_ok hl e).1 _ _ _ _ _ _ xo.x h3) (sw_false xo.x.hsc h4) l2) (guards_ok hl xo e5 hR)).to fun D σ H z => kil_go hi1 hE z
        · cases h5
      · cases hc
    · cases h
end
end
end Jr

/-! Defs; the law's call. -/
namespace Jr
open PySem PySem.Spec PyProof.Rows L2

def firstN (d : Fn) : List Nat := (List.range d.N.length).filter fun i => decide (d.np ≤ i)
def firstF (d : Fn) : List Nat := firstN d ++ (firstN d).map cc
/-- the checks of a def -/
structure DefOk (tb : Tb) (d : Fn) (params : Arguments) (body : List Stmt) (scope : Scope) : Prop where
  sc : FnScope d.N (d.N.take d.np) scope
  np : d.np ≤ d.N.length
  sz : d.N.length ≤ 1000 := by decide
  ms : mSs tb d.N scope d.body body = true
  ck : (chks tb d.fr d.dfr [] (firstF d) d.body).isSome = true
  bd : ∀ (x q : Str) (kV doc pm : Value) (an : Option Addr) (cdv ct : Value) (us : List Value), us.length = (d.N.take d.np).length → bindArgs (PySem.W.fnOf x q params body scope .none kV doc pm an cdv ct) ⟨us, []⟩ = pure ((d.N.take d.np).zip us)
/-- a def stands behind the top -/
def DefAt (K : PySem.W.Frag) (mg : Str → Option Value) (tb : Tb) (d : Fn) : Prop :=
  ∃ (fa : Addr) (fd : FuncData) (params : Arguments) (body : List Stmt) (scope : Scope), mg d.name = some (.ref fa) ∧ FunD K d.name d.name params body scope [] [] fa fd ∧ DefOk tb d params body scope
structure TopOk (K : PySem.W.Frag) (mg : Str → Option Value) (tb : Tb) (gls : List Tr) : Prop where
  bi : ∀ x ∈ tb.bs, mg x = mgB x
  gl : ∀ (i : Nat) (x : Str) (t : Tr), tb.gls[i]? = some x → gls[i]? = some t → ∃ v u, mg x = some u ∧ RelV v u ∧ ∀ H O, Rp K H O v t
  fn : ∀ (f : Nat) (d : Fn), tb.fns[f]? = some d → DefAt K mg tb d
  exs : ∀ x ∈ tb.exs, ∃ C, ExF K mg x C
  exm : ∀ x y b, tb.exm.lookup (x, y) = some b → ExmF K mg x y b
  kit : ∀ x y b, tb.kit.lookup (x, y) = some b → KitF K mg x y b
theorem start_get {N : List Str} {vs : List V} {ts : List Tr} {K : PySem.W.Frag} {H : Hp} {Av : Addr → Prop} (r : Rps K H Av vs ts) {i : Nat} {t : Tr} (e : (startE N.length ts)[i]? = some (some t)) : ∃ v, (L2.start N vs)[i]? = some (some v) ∧ Rp K H Av v t ∧ i < ts.length := by
  unfold startE at e
  unfold L2.start
  by_cases hi : i < ts.length
  · rw [List.getElem?_append_left (by rw [List.length_map]; exact hi), List.getElem?_map] at e
    cases q : ts[i]? with
    | none => rw [q] at e; cases e
    | some u =>
      rw [q] at e
      cases e
      obtain ⟨v, h1, h2⟩ := r.get q
      refine ⟨v, ?_, h2, hi⟩
      rw [List.getElem?_append_left (by rw [List.length_map, r.length]; exact hi), List.getElem?_map, h1]
      rfl
  · rw [List.getElem?_append_right (by rw [List.length_map]; omega), List.getElem?_replicate] at e
    split at e <;> cases e
theorem fn_all {P : Program} {w : World} {K : PySem.W.Frag} {mg : Str → Option Value} {base : Heap} {tb : Tb} {gls : List Tr} (fuel : Nat) (T : TopOk K mg tb gls) : ∀ (k f : Nat) (d : Fn), tb.fns[f]? = some d →
    ∀ (fa : Addr) (fd : FuncData) (params : Arguments) (body : List Stmt) (scope : Scope), FunD K d.name d.name params body scope [] [] fa fd → DefOk tb d params body scope →
      FnG P w K mg base (L2.CX P w) k fa fd (d.N.take d.np) (spF K mg d.np d.fr d.dfr (runF tb.fns gls fuel k f))
  | 0, f, d, hd, fa, fd, params, body, scope, F, O => by
    refine ⟨fun vs H Q E h => ?_, fun A outer s H args us vs Q E hr hgu he hb hv hs => ?_⟩
    · obtain ⟨_, _, _, _, _, h⟩ := h
      exact h.elim
    · obtain ⟨_, _, _, _, _, h⟩ := hs
      exact h.elim
  | k + 1, f, d, hd, fa, fd, params, body, scope, F, O => by
    have hl : ∀ (f : Nat) (d : Fn), tb.fns[f]? = some d → ∀ ts, ts.length ≠ d.np → runF tb.fns gls fuel k f ts = .no := fun f d hd ts hn => by
      cases k with
      | zero => rfl
      | succ k =>
        rw [runF, hd]
        exact if_neg hn
    refine fun_okG F O.sc (fun vs H Q E h => ?_) fun cdv A outer s H vs Q E hr hgu hsp => ?_
    · rw [h.1, List.length_take]
      have := O.np
      omega
    · obtain ⟨hlen, O0, ts, hO, rr, hgo⟩ := hsp
      obtain ⟨F', hF'⟩ := Option.isSome_iff_exists.mp O.ck
      have hX : XOk tb ⟨runF tb.fns gls fuel k, gls, fuel⟩ k d.N (fun cls d _ H => E cls d H) (cxOf (L2.CX P w) P w K mg base d.N d.name scope fa cdv A outer s H E) scope scope :=
        { hN := rfl
          sz := O.sz
          nd := O.sc.nd
          hsc := rfl
          calm := rfl
          tk := takes_of rfl rfl rfl rfl
          room := hr
          grd := hgu
          loc := fun y h => by
            refine ⟨?_, .inl rfl⟩
            unfold locB at h
            split at h
            · exact .inl (by assumption)
            · exact .inr (by assumption)
            · cases h
          cal := fun f' d' hd' => by
            obtain ⟨fa', fd', params', body', scope', hm, F2, O2⟩ := T.fn f' d' hd'
            exact ⟨fa', fd', hm, F2.kp, F2.bindsN fun kV doc pm an cdv ct us hl => O2.bd _ _ kV doc pm an cdv ct us hl, fn_all fuel T k f' d' hd' fa' fd' params' body' scope' F2 O2⟩
          bi := T.bi
          gl := T.gl
          exs := T.exs
          exm := T.exm
          kit := T.kit }
      have sok : SOk tb ⟨runF tb.fns gls fuel k, gls, fuel⟩ k d.N (fun cls d _ H => E cls d H) (cxOf (L2.CX P w) P w K mg base d.N d.name scope fa cdv A outer s H E) scope := ⟨hX, O.sc.kind, passes_of rfl, rfl, rfl⟩
      refine ⟨_, sts_ok hl d.body _ _ _ _ _ d.fr d.dfr [] (firstF d) F' sok O.ms hF', ⟨O0, fun a => H a ≠ none, fun _ => none, H, firstF d⟩, startE d.N.length ts, ⟨Same.refl _, hO, fun a z => z, ?_, ?_, fun i a e => (nomatch e), fun i a e => (nomatch e), fun i j a e => (nomatch e), fun i t e => ?_⟩, fun i hi => hi, ?_⟩
      · unfold startE L2.start
        rw [List.length_append, List.length_append, List.length_map, List.length_map, List.length_replicate, List.length_replicate, rr.length]
      · unfold startE
        rw [List.length_append, List.length_map, List.length_replicate]
        have h1 := rr.length
        have h2 := O.sz
        have h3 := O.np
        have h4 : vs.length = d.np := hlen
        omega
      · obtain ⟨v, h1, h2, h3⟩ := start_get (N := d.N) rr e
        have h2' : Rp K H ((⟨O0, fun a => H a ≠ none, fun _ => none, H, firstF d⟩ : Gh).Av [i + 1000]) v t := h2.less fun a z => by
          rcases z with z | ⟨_, e, _⟩ | ⟨_, q⟩
          · exact z
          · cases e
          · have q1 := q (i + 1000) List.mem_cons_self
            rw [cc_item] at q1
            have h4 := rr.length
            have h5 : vs.length = d.np := hlen
            have h6 := O.sz
            have h7 := O.np
            rcases List.mem_append.mp q1 with q1 | q1
            · have := List.mem_range.mp (List.mem_filter.mp q1).1
              have := cc_ge i
              omega
            · obtain ⟨j, hj, ej⟩ := List.mem_map.mp q1
              have hj1 := List.mem_range.mp (List.mem_filter.mp hj).1
              have hj2 : d.np ≤ j := of_decide_eq_true (List.mem_filter.mp hj).2
              have := cc_inj (by omega) (by omega) ej
              omega
        refine ⟨v, h1, h2'.ri, .inr ⟨h2', fun hi => ?_⟩⟩
        have h4 := rr.length
        have h5 : vs.length = d.np := hlen
        have h6 := O.sz
        have h7 := O.np
        rcases List.mem_append.mp hi with hi | hi
        · have : d.np ≤ i := of_decide_eq_true (List.mem_filter.mp hi).2
          omega
        · obtain ⟨j, _, ej⟩ := List.mem_map.mp hi
          have := cc_ge j
          omega
      · have hlt : ts.length = d.np := by rw [← rr.length]; exact hlen
        have hgo' : Go mg (fun cls d _ H' => E cls d H') [] H (match execs ⟨runF tb.fns gls fuel k, gls, fuel⟩ d.body (startE d.N.length ts) with
            | .nx _ => R.ok Tr.non
            | .rt t => .ok t
            | .ex c _ => .ex c
            | _ => .no) fun t => ∀ H' w, Same H H' → Rp K H' O0 w t → (d.fr = true → Fr K H H' O0 w t) → (d.dfr = true → Rp K H' (fun a => H a ≠ none) w t ∧ (d.fr = true → Fr K H H' (fun a => H a ≠ none) w t)) → Q w H' := by
          rw [runF, hd] at hgo
          have hgo2 : Go mg (fun cls d _ H' => E cls d H') [] H (if ts.length = d.np then (match execs ⟨runF tb.fns gls fuel k, gls, fuel⟩ d.body (startE d.N.length ts) with
            | .nx _ => R.ok Tr.non
            | .rt t => .ok t
            | .ex c _ => .ex c
            | _ => .no) else .no) fun t => ∀ H' w, Same H H' → Rp K H' O0 w t → (d.fr = true → Fr K H H' O0 w t) → (d.dfr = true → Rp K H' (fun a => H a ≠ none) w t ∧ (d.fr = true → Fr K H H' (fun a => H a ≠ none) w t)) → Q w H' := hgo
          rw [if_pos hlt] at hgo2
          exact hgo2
        generalize execs ⟨runF tb.fns gls fuel k, gls, fuel⟩ d.body (startE d.N.length ts) = o at hgo'
        cases o with
        | nx ρ => exact fun g' σ' H' e s hF rl => hgo' H' .non (s.trans rl.same) .non (fun _ => nofr fun _ z => nomatch z) fun _ => ⟨.non, fun _ => nofr fun _ z => nomatch z⟩
        | rt t => exact fun v H' s rp f d => hgo' H' v s rp f d
        | ex x ρ => exact fun C e g' σ' H' e2 s hF rl => hgo' C e H' (s.trans rl.same)
        | bk ρ => exact hgo'.elim
        | ct ρ => exact hgo'.elim
        | no => exact hgo'.elim
/-- what a call may let out, whatever the world -/
def CXe (P : Program) : CXT := fun outer H s E e s' => ∃ w, L2.CX P w outer H s E e s'
theorem FnG.cxe {P : Program} {w : World} {K : PySem.W.Frag} {mg : Str → Option Value} {base : Heap} {k : Nat} {f : Addr} {fd : FuncData} {ps : List Str} {sp : Sp} (F : FnG P w K mg base (L2.CX P w) k f fd ps sp) : FnG P w K mg base (CXe P) k f fd ps sp :=
  ⟨F.len, fun A outer s H args us vs Q E hr hgu he hb hv hs => codeAny_mono (F.run A outer s H args us vs Q E hr hgu he hb hv hs) fun r s' h => by
    cases r with
    | ok fl => cases fl <;> exact h
    | error e => exact ⟨w, h⟩⟩
theorem cxe_false {P : Program} {H : Hp} {s s' : Shared} {e : Value} {o : List PySem.Env} (h : CXe P o H s (fun _ _ _ => False) e s') : False := by
  obtain ⟨w, a, B, H', cls, d, _, _, _, _, _, _, _, h⟩ := h
  exact h
theorem cx_false {P : Program} {w : World} {o : List PySem.Env} {H : Hp} {s s' : Shared} {e : Value} (h : L2.CX P w o H s (fun _ _ _ => False) e s') : False := by
  obtain ⟨a, B, H', cls, d, _, _, _, _, _, _, _, h⟩ := h
  exact h
/-- the law's def, at a script -/
theorem law_sp {K : PySem.W.Frag} {mg : Str → Option Value} {tb : Tb} {gls : List Tr} {fuel k f n : Nat} {fr dfr : Bool} (h : ∀ ns : List Int, ns.length ≤ n → runF tb.fns gls fuel k f [.scr ns] = .ok (.bl true)) (H : Hp) (a : Addr) (ns : List Int) (hn : ns.length ≤ n) (hO : Only H) (hS : SqL K H a (ns.map V.int)) :
    spF K mg 1 fr dfr (runF tb.fns gls fuel k f) [.ref a] H (fun v _ => v = .bl true) fun _ _ _ => False := by
  have hF : SqF K H a (ns.map V.int) := by
    rcases hS with (hS | hS) | hS
    · rcases hO a with z | ⟨o, xs, z⟩
      · rw [z] at hS; cases hS
      · rw [z] at hS; cases hS
    · exact .inl hS
    · exact .inr hS
  refine ⟨rfl, fun _ => False, [.scr ns], fun _ z => z.elim, .cons (.scr hF) .nil, ?_⟩
  rw [h ns hn]
  intro H' w _ rp _ _
  cases rp
  rfl
/-! ### the head's facts, with names of a module's functions and classes of exceptions -/
inductive Xf where
  | exc (x : Str) | exm (x y : Str) (b : Bool) | kit (x y : Str) (b : Bool) | tupI (x : Str) (is : List Int)
def excB (K : PySem.W.Frag) (D : Addr) : Bool :=
  He.eqO (PySem.W.findIn K (.ref D) "__getattribute__") (some (some (.builtin "BaseException.__getattribute__"))) && (He.eqO (PySem.W.findIn K (.ref D) "__getattr__") (some none) && (decide (PySem.W.subIn K (.ref D) (.type "BaseException") = some true) && (PySem.W.hasDictIn K D &&
    (He.eqO (PySem.W.findIn K (.ref D) "__class__") (some (some (.builtin "object.__class__"))) && (He.eqO (PySem.W.specialIn K (.builtin "object.__class__") "__get__") (some (some (.builtin "getset_descriptor.__get__"))) && (decide (PySem.W.takesIn K (.builtin "object.__class__") = some true) && decide (PySem.W.mroIn K D (.type "object") = some true)))))))
theorem excB_ok {K : PySem.W.Frag} {D : Addr} (h : excB K D = true) : ExcC K D := by
  unfold excB at h
  simp only [Bool.and_eq_true] at h
  obtain ⟨h1, h2, h3, h4, h5, h6, h7, h8⟩ := h
  exact ⟨He.eqO_ok h1, He.eqO_ok h2, of_decide_eq_true h3, h4, He.eqO_ok h5, He.eqO_ok h6, of_decide_eq_true h7, of_decide_eq_true h8⟩
def intsB : List Value → List Int → Bool
  | [], [] => true
  | .int j _ :: us, i :: is => decide (j = i) && intsB us is
  | _, _ => false
def tupB (K : PySem.W.Frag) (a : Addr) (is : List Int) : Bool := match K.lookup a with
  | some ⟨.type t, _, .seq its _, _⟩ => decide (t = "tuple") && (decide (its.size ≤ 1000) && intsB its.toList is)
  | _ => false
theorem intsB_ok : ∀ {us : List Value} {is : List Int}, intsB us is = true → Vals (is.map V.int) us
  | [], [], _ => .nil
  | .int j t :: us, i :: is, h => by
    have h : (decide (j = i) && intsB us is) = true := h
    rw [Bool.and_eq_true, decide_eq_true_eq] at h
    obtain ⟨e, h2⟩ := h
    subst e
    exact .cons ⟨t, rfl⟩ (intsB_ok h2)
theorem tupB_ok {K : PySem.W.Frag} {a : Addr} {is : List Int} (h : tupB K a is = true) (H : Hp) : SqT K H a (is.map V.int) := by
  unfold tupB at h
  split at h
  · rename_i t od its n osl e
    rw [Bool.and_eq_true, Bool.and_eq_true, decide_eq_true_eq, decide_eq_true_eq] at h
    obtain ⟨rfl, h2, h3⟩ := h
    exact .inr ⟨_, its, n, e, rfl, rfl, Nat.le_trans h2 (by unfold sizeLine; decide), intsB_ok h3⟩
  · cases h
theorem rps_ints {K : PySem.W.Frag} {H : Hp} {O : Addr → Prop} : ∀ is : List Int, Rps K H O (is.map V.int) (is.map Tr.int)
  | [] => .nil
  | i :: is => .cons (.int i) (rps_ints is)
def Xf.ok (K : PySem.W.Frag) : Xf → Bool
  | .tupI x is => (He.Fa.glo x).ok K && tupB K (He.ga K x) is
  | .exc x => (He.Fa.glo x).ok K && ((He.Fa.exc x).ok K && excB K (He.ga K x))
  | .exm x y b => (He.Fa.glo x).ok K && ((He.Fa.glo y).ok K && (He.Fa.exm x y b).ok K)
  | .kit x y b => (He.Fa.glo x).ok K && (match PySem.W.nsIn K mainGlobals y with
    | some (some (.ref D)) => decide (PySem.W.kitOne K (.ref (He.ga K x)) (.ref D) = some b)
    | some none => (match bootBuiltins y with
      | some (.type n) => decide (PySem.W.kitOne K (.ref (He.ga K x)) (.type n) = some b) && !decide (y = ("__name__" : Str))
      | _ => false)
    | _ => false)
def xsOf (tb : Tb) : List Xf := tb.exs.map .exc ++ (tb.exm.map (fun p => .exm p.1.1 p.1.2 p.2) ++ (tb.kit.map (fun p => .kit p.1.1 p.1.2 p.2) ++ tb.gts.map fun p => .tupI p.1 p.2))
section
variable {K : PySem.W.Frag} {h : Heap} {mg : Str → Option Value} {tb : Tb}
theorem xf_exc (X : K.In h) (G : h.Ns mainGlobals mg) {x : Str} (c : (Xf.exc x).ok K = true) : ExF K mg x (He.ga K x) := by
  obtain ⟨c1, c2⟩ := He.ba c
  obtain ⟨c3, c4⟩ := He.ba c2
  obtain ⟨d1, d2, d3, d4⟩ := He.exc_ok c3
  exact ⟨He.glo_ok X G c1, d1, d2, d3, d4, excB_ok c4⟩
theorem xf_exm (X : K.In h) (G : h.Ns mainGlobals mg) {x y : Str} {b : Bool} (c : (Xf.exm x y b).ok K = true) : ExmF K mg x y b := by
  obtain ⟨c1, c2⟩ := He.ba c
  obtain ⟨c3, c4⟩ := He.ba c2
  refine ⟨_, He.glo_ok X G c3, fun C hC => ?_⟩
  rw [He.glo_ok X G c1] at hC
  cases hC
  exact He.exm_ok c4
theorem xf_kit (X : K.In h) (G : h.Ns mainGlobals mg) {x y : Str} {b : Bool} (c : (Xf.kit x y b).ok K = true) : KitF K mg x y b := by
  obtain ⟨c1, c2⟩ := He.ba c
  have hx := He.glo_ok X G c1
  split at c2
  · rename_i D hD
    refine ⟨.ref D, .ref D, .inl (PySem.W.mg_of X G hD), rfl, fun u hu => hu, fun C hC => ?_⟩
    rw [hx] at hC
    cases hC
    exact of_decide_eq_true c2
  · rename_i hN
    split at c2
    · rename_i n hn
      rw [Bool.and_eq_true, decide_eq_true_eq] at c2
      refine ⟨.ty n, .type n, .inr ⟨PySem.W.mg_none_of X G hN, hn, by simpa using c2.2⟩, rfl, fun u hu => hu, fun C hC => ?_⟩
      rw [hx] at hC
      cases hC
      exact c2.1
    · cases c2
  · cases c2
theorem lookup_mem {α β : Type} [BEq α] [LawfulBEq α] {l : List (α × β)} {a : α} {b : β} (e : l.lookup a = some b) : (a, b) ∈ l := by
  induction l with
  | nil => cases e
  | cons p r ih =>
    rw [List.lookup_cons] at e
    split at e
    · rename_i q
      have : a = p.1 := eq_of_beq q
      cases e
      rw [this]
      exact List.mem_cons_self
    · exact List.mem_cons_of_mem _ (ih e)
theorem xs_exs (X : K.In h) (G : h.Ns mainGlobals mg) (c : ∀ f ∈ xsOf tb, f.ok K = true) : ∀ x ∈ tb.exs, ∃ C, ExF K mg x C := fun x hx =>
  ⟨_, xf_exc X G (c _ (List.mem_append_left _ (List.mem_map_of_mem hx)))⟩
theorem xs_exm (X : K.In h) (G : h.Ns mainGlobals mg) (c : ∀ f ∈ xsOf tb, f.ok K = true) : ∀ x y b, tb.exm.lookup (x, y) = some b → ExmF K mg x y b := fun x y b e =>
  xf_exm X G (c _ (List.mem_append_right _ (List.mem_append_left _ (List.mem_map.mpr ⟨_, lookup_mem e, rfl⟩))))
theorem xs_kit (X : K.In h) (G : h.Ns mainGlobals mg) (c : ∀ f ∈ xsOf tb, f.ok K = true) : ∀ x y b, tb.kit.lookup (x, y) = some b → KitF K mg x y b := fun x y b e =>
  xf_kit X G (c _ (List.mem_append_right _ (List.mem_append_right _ (List.mem_append_left _ (List.mem_map.mpr ⟨_, lookup_mem e, rfl⟩)))))
theorem gl_tup (X : K.In h) (G : h.Ns mainGlobals mg) (c : ∀ f ∈ xsOf tb, f.ok K = true) {x : Str} {is : List Int} (e : (x, is) ∈ tb.gts) : ∃ v u, mg x = some u ∧ RelV v u ∧ ∀ H O, Rp K H O v (.tup (is.map Tr.int)) := by
  have q := c _ (List.mem_append_right _ (List.mem_append_right _ (List.mem_append_right _ (List.mem_map.mpr ⟨_, e, rfl⟩))))
  obtain ⟨c1, c2⟩ := He.ba q
  exact ⟨.ref (He.ga K x), _, He.glo_ok X G c1, rfl, fun H O => .tup (tupB_ok c2 H) (rps_ints is)⟩
end
abbrev AlB : Type := Bool × He.AlD
def bOk (K : PySem.W.Frag) (x : Str × String) : Bool := He.eqO (PySem.W.nsIn K mainGlobals x.1) (some (some (.builtin x.2)))
def obsB (fa : List He.Fa) (fn : List He.DefD) (bn : List (Str × String)) (xs : List Xf) (K : PySem.W.Frag) : AlB := (bn.all (bOk K) && xs.all (Xf.ok K), He.obsD fa fn K)
def valB (fn : List He.DefD) : AlB := (true, He.valD fn)
def SaysB (fa : List He.Fa) (fn : List He.DefD) (bn : List (Str × String)) (xs : List Xf) (K : PySem.W.Frag) : Prop := obsB fa fn bn xs K = valB fn
def obsBG (n : Nat) (fa : List He.Fa) (fn : List He.DefD) (bn : List (Str × String)) (xs : List Xf) (g : Addr → Option Obj) : AlB := obsB fa fn bn xs (He.frG g (He.asD g n))
def hookB (n : Nat) (fa : List He.Fa) (fn : List He.DefD) (bn : List (Str × String)) (xs : List Xf) : PySem.W.Hook where
  α := AlB
  obs := fun s => obsBG n fa fn bn xs s.heap.get?
  val := fun _ => valB fn
  says := fun _ h => ∃ K : PySem.W.Frag, K.In h ∧ SaysB fa fn bn xs K
  of := fun _ _ e => ⟨_, He.frG_in, e⟩
  keeps := fun _ _ _ ⟨K, hK, c⟩ k => ⟨K, PySem.W.Frag.In.keeps hK k, c⟩
theorem obsBG_eq {n : Nat} {fa : List He.Fa} {fn : List He.DefD} {bn : List (Str × String)} {xs : List Xf} {g : Addr → Option Obj} {s : Shared} (h : ∀ a, g a = s.heap.get? a) : obsBG n fa fn bn xs g = (hookB n fa fn bn xs).obs s := by
  have e : g = s.heap.get? := funext h
  rw [e] <;> rfl
theorem SaysB.d {fa : List He.Fa} {fn : List He.DefD} {bn : List (Str × String)} {xs : List Xf} {K : PySem.W.Frag} (c : SaysB fa fn bn xs K) : He.SaysD fa fn K := congrArg (fun z : AlB => z.2) c
theorem SaysB.bx {fa : List He.Fa} {fn : List He.DefD} {bn : List (Str × String)} {xs : List Xf} {K : PySem.W.Frag} (c : SaysB fa fn bn xs K) : bn.all (bOk K) = true ∧ xs.all (Xf.ok K) = true := He.ba (congrArg (fun z : AlB => z.1) c)
theorem SaysB.x {fa : List He.Fa} {fn : List He.DefD} {bn : List (Str × String)} {xs : List Xf} {K : PySem.W.Frag} (c : SaysB fa fn bn xs K) : ∀ f ∈ xs, f.ok K = true := List.all_eq_true.mp c.bx.2
theorem SaysB.b {fa : List He.Fa} {fn : List He.DefD} {bn : List (Str × String)} {xs : List Xf} {K : PySem.W.Frag} {h : Heap} {mg : Str → Option Value} (X : K.In h) (G : h.Ns mainGlobals mg) (c : SaysB fa fn bn xs K) (i : Nat) {x : Str × String} (e : bn[i]? = some x := by rfl) : mg x.1 = some (.builtin x.2) :=
  PySem.W.mg_of X G (He.eqO_ok (List.all_eq_true.mp c.bx.1 x (List.mem_of_getElem? e)))
theorem gl_int {K : PySem.W.Frag} {h : Heap} {mg : Str → Option Value} (X : K.In h) (G : h.Ns mainGlobals mg) {x : Str} {i : Int} (c : (He.Fa.int x i).ok K = true) : ∃ v u, mg x = some u ∧ RelV v u ∧ ∀ H O, Rp K H O v (.int i) := by
  obtain ⟨t, e⟩ := He.int_ok X G c
  exact ⟨.int i, _, e, ⟨t, rfl⟩, fun _ _ => .int _⟩
end Jr

namespace Lk17
open PySem PySem.Spec PyProof.Rows L2 Jr
set_option maxHeartbeats 0
def h_law : Fn where
  name := "law"
  np := 1
  N := ["script", "draws", "weights", "n", "at", "tries", "value", "some", "kept", "m", "case", "k", "votes", "told", "juror", "later", "odd", "q"]
  body := .cons (.set 1 (.cald 1 (.cons (.call 5 (.cons (.var 0) (.cons (.int 0) (.nil)))) (.cons (.int 60) (.cons (.int 5040) (.nil)))))) (
    .cons (.set 2 (.cald 2 (.cons (.var 1) (.cons (.int 0) (.cons (.int 9) (.nil)))))) (
    .cons (.set 3 (.bi .len (.cons (.var 2) (.nil)))) (
    .cons (.set 4 (.bin .mod (.idx (.var 1) (.int 12)) (.var 3))) (
    .cons (.set 5 (.lst (.cons (.var 2) (.cons (.slc (.var 2) (.int 1) (.nil)) (.cons (.bin .add (.var 2) (.slc (.var 2) (.int 0) (.int 1))) (.cons (.lst (.nil)) (.cons (.bin .mul (.lst (.cons (.int 1) (.nil))) (.int 9)) (.cons (.bin .mul (.lst (.cons (.int 1) (.nil))) (.int 10)) (.cons (.bin .add (.bin .mul (.lst (.cons (.int 1) (.nil))) (.int 10)) (.lst (.cons (.non) (.nil)))) (.cons (.lst (.cons (.int 0) (.nil))) (.cons (.lst (.cons (.int 0) (.cons (.int 0) (.cons (.int 0) (.nil))))) (.cons (.lst (.cons (.int 2) (.nil))) (.cons (.lst (.cons (.int 1000) (.cons (.int 1) (.nil)))) (.nil)))))))))))))) (
    .cons (.for [5, 2005, 4, 2004, 3, 2003, 2002, 1, 2001, 7, 8, 9, 10, 11, 12, 13, 14, 15, 16, 17, 2006, 2007, 2008, 2009, 2010, 2011, 2012, 2013, 2014, 2015, 2016, 2017] (.var 6) (.of (.lst (.cons (.int 0) (.cons (.int 1) (.cons (.int 2) (.cons (.neg (.int 1)) (.cons (.int 1000) (.cons (.int 1001) (.cons (.bl true) (.cons (.non) (.cons (.str "1") (.cons (.tup (.cons (.int 1) (.nil))) (.nil))))))))))))) (.cons (.set 5 (.bin .add (.var 5) (.lst (.cons (.bin .add (.bin .add (.slc (.var 2) (.int 0) (.var 4)) (.lst (.cons (.var 6) (.nil)))) (.slc (.var 2) (.bin .add (.var 4) (.int 1)) (.nil))) (.cons (.lst (.cons (.var 6) (.nil))) (.cons (.lst (.cons (.var 6) (.cons (.int 1) (.cons (.int 1) (.nil))))) (.cons (.bin .add (.lst (.cons (.var 6) (.nil))) (.lst (.cons (.non) (.nil)))) (.nil)))))))) .nil)) (
    .cons (.for [2005, 4, 2004, 3, 2003, 2002, 1, 2001, 8, 9, 10, 11, 12, 13, 14, 15, 16, 17, 2006, 2007, 2008, 2009, 2010, 2011, 2012, 2013, 2014, 2015, 2016, 2017] (.var 7) (.of (.var 5)) (.cons (.ife (.cmp .ne (.cald 11 (.cons (.var 7) (.nil))) (.cald 15 (.cons (.var 7) (.nil)))) (.cons (.ret (.bl false)) .nil) (.nil)) .nil)) (
    .cons (.set 8 (.bi .list (.cons (.var 2) (.nil)))) (
    .cons (.for [8, 2008, 2005, 4, 2004, 3, 2003, 2002, 1, 2001, 9, 10, 11, 12, 13, 14, 15, 16, 17, 2006, 2007, 2009, 2010, 2011, 2012, 2013, 2014, 2015, 2016, 2017] (.var 7) (.of (.bin .add (.slk 7 (.cald 16 (.cons (.var 3) (.nil))) (.int 0) (.int 512)) (.lst (.cons (.lrg1 (.var 3)) (.nil))))) (.cons (.ife (.or (.not (.call 17 (.cons (.cald 8 (.cons (.var 2) (.cons (.var 7) (.nil)))) (.cons (.cald 19 (.cons (.var 2) (.cons (.var 7) (.nil)))) (.nil))))) (.not (.call 17 (.cons (.cald 8 (.cons (.var 2) (.cons (.rev (.var 7)) (.nil)))) (.cons (.cald 19 (.cons (.var 2) (.cons (.var 7) (.nil)))) (.nil)))))) (.cons (.ret (.bl false)) .nil) (.nil)) .nil)) (
    .cons (.set 9 (.bin .add (.int 1) (.bin .mod (.idx (.var 1) (.int 13)) (.int 4)))) (
    .cons (.set 10 (.call 3 (.cons (.var 1) (.cons (.int 14) (.cons (.var 9) (.nil)))))) (
    .cons (.for [10, 2010, 2009, 8, 2008, 2005, 4, 2004, 2003, 2002, 2001, 12, 13, 14, 15, 16, 17, 2006, 2007, 2011, 2012, 2013, 2014, 2015, 2016, 2017] (.var 11) (.rng1 (.int 4)) (.cons (.set 12 (.call 6 (.cons (.var 1) (.cons (.bin .add (.int 30) (.bin .mul (.int 7) (.var 11))) (.cons (.idx (.var 10) (.int 1)) (.cons (.var 3) (.nil))))))) (
      .cons (.set 13 (.cald 7 (.cons (.var 2) (.cons (.var 12) (.nil))))) (
      .cons (.ife (.not (.call 17 (.cons (.var 13) (.cons (.cald 18 (.cons (.var 2) (.cons (.var 12) (.nil)))) (.nil))))) (.cons (.ret (.bl false)) .nil) (.nil)) (
      .cons (.set 14 (.bin .mod (.idx (.var 1) (.bin .add (.int 50) (.var 11))) (.var 3))) (
      .cons (.set 15 (.cald 7 (.cons (.var 2) (.cons (.bin .add (.bin .add (.slc (.var 12) (.int 0) (.var 14)) (.lst (.cons (.bin .mul (.tup (.cons (.int 1) (.nil))) (.var 9)) (.nil)))) (.slc (.var 12) (.bin .add (.var 14) (.int 1)) (.nil))) (.nil))))) (
      .cons (.ife (.cmp .gt (.bi .len (.cons (.comp (.var 17) (.rng1 (.var 9)) (.cmp .gt (.idx (.var 13) (.var 17)) (.idx (.var 15) (.var 17))) (.var 17)) (.nil))) (.int 0)) (.cons (.ret (.bl false)) .nil) (.nil)) (
      .cons (.set 16 (.slc (.var 12) (.int 0) (.bin .sub (.var 3) (.bin .mod (.bin .add (.var 3) (.int 1)) (.int 2))))) (
      .cons (.ife (.not (.call 17 (.cons (.cald 7 (.cons (.bin .mul (.lst (.cons (.int 3) (.nil))) (.bi .len (.cons (.var 16) (.nil)))) (.cons (.var 16) (.nil)))) (.cons (.cald 20 (.cons (.var 16) (.nil))) (.nil))))) (.cons (.ret (.bl false)) .nil) (.nil)) .nil))))))))) (
    .cons (.ret (.cmp .eq (.var 2) (.var 8))) .nil))))))))))))
  fr := true
  dfr := true
def h__law_numbers : Fn where
  name := "_law_numbers"
  np := 3
  N := ["cell", "count", "limit", "found", "k", "mixed"]
  body := .cons (.set 3 (.lst (.nil))) (
    .cons (.ife (.cmp .ge (.var 0) (.bin .pow (.int 10) (.int 18))) (.cons (.for [3, 2003, 5, 2004, 2005] (.var 4) (.rng1 (.var 1)) (.cons (.app 3 (.bin .mod (.bi .int (.cons (.var 0) (.nil))) (.var 2))) (
        .cons (.set 0 (.bin .fdiv (.bi .int (.cons (.var 0) (.nil))) (.var 2))) .nil))) (
      .cons (.ret (.var 3)) .nil)) (.nil)) (
    .cons (.for [3, 2003, 5, 2004, 2005] (.var 4) (.rng1 (.var 1)) (.cons (.set 5 (.bin .mod (.bi .int (.cons (.bin .add (.bin .add (.bin .mul (.var 0) (.int 48271)) (.bin .mul (.var 4) (.int 69621))) (.int 7)) (.nil))) (.int 2147483647))) (
      .cons (.set 5 (.bin .mod (.bi .int (.cons (.bin .add (.bin .add (.bin .add (.bin .mul (.var 5) (.var 5)) (.bin .mul (.var 5) (.int 40692))) (.bin .mul (.var 4) (.int 16807))) (.int 11)) (.nil))) (.int 2147483399))) (
      .cons (.app 3 (.bin .mod (.bi .int (.cons (.bin .fdiv (.var 5) (.int 32)) (.nil))) (.var 2))) .nil)))) (
    .cons (.ret (.var 3)) .nil)))
  fr := true
  dfr := true
def h__law_weights : Fn where
  name := "_law_weights"
  np := 3
  N := ["draws", "at", "most", "n", "found", "spot", "k"]
  body := .cons (.set 3 (.bin .add (.int 1) (.bin .mod (.idx (.var 0) (.var 1)) (.var 2)))) (
    .cons (.set 4 (.comp (.var 6) (.rng1 (.var 3)) (.nil) (.bin .mod (.idx (.var 0) (.bin .add (.bin .add (.var 1) (.int 1)) (.var 6))) (.idx (.lst (.cons (.int 2) (.cons (.int 5) (.cons (.int 20) (.cons (.int 1001) (.nil)))))) (.bin .mod (.idx (.var 0) (.bin .add (.var 1) (.int 10))) (.int 4)))))) (
    .cons (.ife (.cmp .eq (.bin .mod (.bi .sum (.cons (.var 4) (.nil))) (.int 2)) (.int 0)) (.cons (.set 5 (.bin .mod (.idx (.var 0) (.bin .add (.var 1) (.int 11))) (.var 3))) (
      .cons (.seti 4 (.var 5) (.bin .add (.idx (.var 4) (.var 5)) (.idx (.lst (.cons (.int 1) (.cons (.neg (.int 1)) (.nil)))) (.bi .int (.cons (.cmp .eq (.idx (.var 4) (.var 5)) (.int 1000)) (.nil)))))) .nil)) (.nil)) (
    .cons (.ret (.var 4)) .nil)))
  fr := true
  dfr := true
def h__law_case : Fn where
  name := "_law_case"
  np := 3
  N := ["draws", "at", "m", "rows", "number", "answers"]
  body := .cons (.set 3 (.lst (.nil))) (
    .cons (.set 4 (.int 0)) (
    .cons (.for [4, 2004, 3, 2003, 2005] (.var 5) (.of (.cald 4 (.cons (.var 2) (.nil)))) (.cons (.ife (.cmp .gt (.bin .mod (.idx (.var 0) (.bin .mod (.bin .add (.var 1) (.var 4)) (.bi .len (.cons (.var 0) (.nil))))) (.idx (.lst (.cons (.int 2) (.cons (.int 3) (.cons (.int 5) (.nil))))) (.bin .mod (.idx (.var 0) (.var 1)) (.int 3)))) (.int 0)) (.cons (.app 3 (.var 5)) .nil) (.nil)) (
      .cons (.set 4 (.bin .add (.var 4) (.int 1))) .nil))) (
    .cons (.ife (.cmp .eq (.bi .len (.cons (.var 3) (.nil))) (.int 0)) (.cons (.set 3 (.slc (.cald 4 (.cons (.var 2) (.nil))) (.int 0) (.int 1))) .nil) (.nil)) (
    .cons (.ret (.tup (.cons (.var 2) (.cons (.var 3) (.nil))))) .nil))))
  fr := true
  dfr := false
def h__law_answers : Fn where
  name := "_law_answers"
  np := 1
  N := ["m", "found", "k", "longer", "answers"]
  body := .cons (.set 1 (.lst (.cons (.tup (.nil)) (.nil)))) (
    .cons (.for [2001, 2002, 2003, 2004] (.var 2) (.rng1 (.var 0)) (.cons (.set 3 (.lst (.nil))) (
      .cons (.for [3, 2003, 2002, 2001, 2002, 2004] (.var 4) (.of (.var 1)) (.cons (.set 3 (.bin .add (.var 3) (.lst (.cons (.bin .add (.var 4) (.tup (.cons (.int 0) (.nil)))) (.cons (.bin .add (.var 4) (.tup (.cons (.int 1) (.nil)))) (.nil)))))) .nil)) (
      .cons (.set 1 (.var 3)) .nil)))) (
    .cons (.ret (.var 1)) .nil))
  fr := false
  dfr := true
def h__law_cell : Fn where
  name := "_law_cell"
  np := 2
  N := ["script", "k"]
  body := .cons (.ife (.cmp .lt (.var 1) (.bi .len (.cons (.var 0) (.nil)))) (.cons (.ret (.bi .int (.cons (.idx (.var 0) (.var 1)) (.nil)))) .nil) (.nil)) (
    .cons (.ret (.int 0)) .nil)
  fr := true
  dfr := false
def h__law_votes : Fn where
  name := "_law_votes"
  np := 4
  N := ["draws", "at", "rows", "jurors", "k"]
  body := .cons (.ret (.comp (.var 4) (.rng1 (.var 3)) (.nil) (.idx (.var 2) (.bin .mod (.idx (.var 0) (.bin .mod (.bin .add (.var 1) (.var 4)) (.bi .len (.cons (.var 0) (.nil))))) (.bi .len (.cons (.var 2) (.nil))))))) .nil
  fr := true
  dfr := false
def h_weighted : Fn where
  name := "weighted"
  np := 2
  N := ["weights", "votes", "question"]
  body := .cons (.ret (.bi .tuple (.cons (.comp (.var 2) (.rng1 (.bi .len (.cons (.idx (.var 1) (.int 0)) (.nil)))) (.nil) (.bi .int (.cons (.cald 8 (.cons (.var 0) (.cons (.call 10 (.cons (.var 1) (.cons (.var 2) (.nil)))) (.nil)))) (.nil)))) (.nil)))) .nil
  fr := true
  dfr := true
def h_is_heavy : Fn where
  name := "is_heavy"
  np := 2
  N := ["weights", "jurors"]
  body := .cons (.ret (.cmp .gt (.bin .mul (.int 2) (.call 9 (.cons (.var 0) (.cons (.var 1) (.nil))))) (.bi .sum (.cons (.var 0) (.nil))))) .nil
  fr := true
  dfr := true
def h_weight_of : Fn where
  name := "weight_of"
  np := 2
  N := ["weights", "jurors", "juror"]
  body := .cons (.ret (.bi .sum (.cons (.comp (.var 2) (.of (.var 1)) (.nil) (.idx (.var 0) (.var 2))) (.nil)))) .nil
  fr := true
  dfr := false
def h_yes_sayers : Fn where
  name := "yes_sayers"
  np := 2
  N := ["votes", "question", "juror", "vote"]
  body := .cons (.ret (.comp (.tup [.var 2, .var 3]) (.enum (.var 0)) (.cmp .eq (.idx (.var 3) (.var 1)) (.int 1)) (.var 2))) .nil
  fr := true
  dfr := false
def h__law_checked : Fn where
  name := "_law_checked"
  np := 1
  N := ["weights", "e"]
  body := .cons (.trx [⟨"InvalidWeight", some 1, .pick "other" "weight" (.and (.isi "JuryError") (.not (.isi "InvalidRow")))⟩, ⟨"WrongCount", some 1, .pick "other" "count" (.and (.isi "JuryError") (.not (.isi "InvalidWeight")))⟩] [("WrongCount", some (.str "count")), ("InvalidWeight", some (.str "weight"))] (.cons (.ret (.idx (.lst (.cons (.str "other") (.cons (.str "good") (.nil)))) (.bi .int (.cons (.cmp .is (.cald 12 (.cons (.var 0) (.nil))) (.non)) (.nil))))) .nil)) .nil
  fr := false
  dfr := true
def h_check_weights : Fn where
  name := "check_weights"
  np := 1
  N := ["weights", "weight"]
  body := .cons (.ife (.not (.chain .le .le (.int 1) (.bi .len (.cons (.var 0) (.nil))) (.gl 0))) (.cons (.rai "WrongCount") .nil) (.nil)) (
    .cons (.for [] (.var 1) (.of (.var 0)) (.cons (.ife (.not (.call 13 (.cons (.var 1) (.cons (.int 0) (.cons (.gl 1) (.nil)))))) (.cons (.rai "InvalidWeight") .nil) (.nil)) .nil)) (
    .cons (.ife (.cmp .eq (.bin .mod (.bi .sum (.cons (.var 0) (.nil))) (.int 2)) (.int 0)) (.cons (.rai "InvalidWeight") .nil) (.nil)) .nil))
  fr := true
  dfr := true
def h_is_within : Fn where
  name := "is_within"
  np := 3
  N := ["value", "low", "high"]
  body := .cons (.ret (.and (.cald 14 (.cons (.var 0) (.nil))) (.chain .le .le (.var 1) (.var 0) (.var 2)))) .nil
  fr := true
  dfr := true
def h_is_whole : Fn where
  name := "is_whole"
  np := 1
  N := ["value"]
  body := .cons (.ret (.and (.isi .int (.var 0)) (.not (.isi .bool (.var 0))))) .nil
  fr := true
  dfr := true
def h__law_word : Fn where
  name := "_law_word"
  np := 1
  N := ["weights", "weight"]
  body := .cons (.ife (.or (.cmp .lt (.bi .len (.cons (.var 0) (.nil))) (.int 1)) (.cmp .gt (.bi .len (.cons (.var 0) (.nil))) (.int 9))) (.cons (.ret (.str "count")) .nil) (.nil)) (
    .cons (.for [] (.var 1) (.of (.var 0)) (.cons (.ife (.or (.not (.isi .int (.var 1))) (.or (.isi .bool (.var 1)) (.or (.cmp .lt (.var 1) (.int 0)) (.cmp .gt (.var 1) (.int 1000))))) (.cons (.ret (.str "weight")) .nil) (.nil)) .nil)) (
    .cons (.ret (.idx (.lst (.cons (.str "weight") (.cons (.str "good") (.nil)))) (.bin .mod (.bi .sum (.cons (.var 0) (.nil))) (.int 2)))) .nil))
  fr := false
  dfr := true
def h__law_sets : Fn where
  name := "_law_sets"
  np := 1
  N := ["count", "found", "k", "some"]
  body := .cons (.set 1 (.lst (.cons (.lst (.nil)) (.nil)))) (
    .cons (.for [1, 2001, 2002, 2003] (.var 2) (.rng1 (.var 0)) (.cons (.set 1 (.bin .add (.var 1) (.comp (.var 3) (.of (.var 1)) (.nil) (.bin .add (.var 3) (.lst (.cons (.var 2) (.nil))))))) .nil)) (
    .cons (.ret (.var 1)) .nil))
  fr := true
  dfr := true
def h__law_same : Fn where
  name := "_law_same"
  np := 2
  N := ["told", "due", "k"]
  body := .cons (.ife (.isi .list (.var 1)) (.cons (.ife (.or (.not (.isi .list (.var 0))) (.cmp .ne (.bi .len (.cons (.var 0) (.nil))) (.bi .len (.cons (.var 1) (.nil))))) (.cons (.ret (.bl false)) .nil) (.nil)) .nil) (.cons (.ife (.isi .tuple (.var 1)) (.cons (.ife (.or (.not (.isi .tuple (.var 0))) (.cmp .ne (.bi .len (.cons (.var 0) (.nil))) (.bi .len (.cons (.var 1) (.nil))))) (.cons (.ret (.bl false)) .nil) (.nil)) .nil) (.cons (.ife (.cmp .is (.var 1) (.non)) (.cons (.ret (.cmp .is (.var 0) (.non))) .nil) (.cons (.ife (.isi .bool (.var 1)) (.cons (.ret (.and (.isi .bool (.var 0)) (.cmp .eq (.var 0) (.var 1)))) .nil) (.cons (.ife (.isi .int (.var 1)) (.cons (.ret (.and (.isi .int (.var 0)) (.and (.not (.isi .bool (.var 0))) (.cmp .eq (.var 0) (.var 1))))) .nil) (.cons (.ret (.and (.isi .str (.var 0)) (.cmp .eq (.var 0) (.var 1)))) .nil)) .nil)) .nil)) .nil)) .nil)) (
    .cons (.for [2002] (.var 2) (.rng1 (.bi .len (.cons (.var 1) (.nil)))) (.cons (.ife (.not (.call 17 (.cons (.idx (.var 0) (.var 2)) (.cons (.idx (.var 1) (.var 2)) (.nil))))) (.cons (.ret (.bl false)) .nil) (.nil)) .nil)) (
    .cons (.ret (.bl true)) .nil))
  fr := true
  dfr := true
def h__law_weighted : Fn where
  name := "_law_weighted"
  np := 2
  N := ["weights", "votes", "found", "k", "j"]
  body := .cons (.set 2 (.lst (.nil))) (
    .cons (.for [2, 2002, 4, 2003, 2004] (.var 3) (.rng1 (.bi .len (.cons (.idx (.var 1) (.int 0)) (.nil)))) (.cons (.app 2 (.bi .int (.cons (.cald 19 (.cons (.var 0) (.cons (.comp (.var 4) (.rng1 (.bi .len (.cons (.var 1) (.nil)))) (.cmp .eq (.idx (.idx (.var 1) (.var 4)) (.var 3)) (.int 1)) (.var 4)) (.nil)))) (.nil)))) .nil)) (
    .cons (.ret (.bi .tuple (.cons (.var 2) (.nil)))) .nil))
  fr := true
  dfr := true
def h__law_heavy : Fn where
  name := "_law_heavy"
  np := 2
  N := ["weights", "some", "juror"]
  body := .cons (.ret (.cmp .gt (.bin .mul (.int 2) (.bi .sum (.cons (.comp (.var 2) (.of (.var 1)) (.nil) (.idx (.var 0) (.var 2))) (.nil)))) (.bi .sum (.cons (.var 0) (.nil))))) .nil
  fr := true
  dfr := true
def h_most_say : Fn where
  name := "most_say"
  np := 1
  N := ["votes", "question"]
  body := .cons (.ret (.bi .tuple (.cons (.comp (.var 1) (.rng1 (.bi .len (.cons (.idx (.var 0) (.int 0)) (.nil)))) (.nil) (.cald 21 (.cons (.var 0) (.cons (.var 1) (.nil))))) (.nil)))) .nil
  fr := true
  dfr := true
def h_most_on : Fn where
  name := "most_on"
  np := 2
  N := ["votes", "question"]
  body := .cons (.ret (.ite (.cmp .gt (.bin .mul (.int 2) (.call 22 (.cons (.var 0) (.cons (.var 1) (.nil))))) (.bi .len (.cons (.var 0) (.nil)))) (.int 1) (.int 0))) .nil
  fr := true
  dfr := true
def h_yes_count : Fn where
  name := "yes_count"
  np := 2
  N := ["votes", "question", "vote"]
  body := .cons (.ret (.bi .sum (.cons (.comp (.var 2) (.of (.var 0)) (.nil) (.idx (.var 2) (.var 1))) (.nil)))) .nil
  fr := true
  dfr := false
def fnsA : List Fn := [h_law, h__law_numbers, h__law_weights, h__law_case, h__law_answers, h__law_cell, h__law_votes, h_weighted, h_is_heavy, h_weight_of, h_yes_sayers, h__law_checked, h_check_weights, h_is_within, h_is_whole, h__law_word, h__law_sets, h__law_same, h__law_weighted, h__law_heavy, h_most_say, h_most_on, h_yes_count]
theorem plainA (ns : List Int) (h : ns.length ≤ 63) : runF fnsA gls 2000 12 0 [.scr ns] = .ok (.bl true) := runF_same (by kernel_rfl) (plain ns h)
def tb : Tb := { fns := fnsA, gls := ["MOST_WEIGHTS", "MOST_WEIGHT"], bs := bs, exs := ["InvalidWeight", "WrongCount"], exm := [(("WrongCount", "InvalidWeight"), false), (("WrongCount", "WrongCount"), true), (("InvalidWeight", "InvalidWeight"), true)], kit := [(("WrongCount", "JuryError"), true), (("WrongCount", "InvalidWeight"), false), (("InvalidWeight", "JuryError"), true), (("InvalidWeight", "InvalidRow"), false)], gts := [] }
def bn : List (Str × String) := []
def top (i : Nat) : Stmt := PySem.Challenge.pw_juriesagree_k17_weights_and_their_outcom.main.body.getD i (.Pass ⟨0, 0, 0, 0⟩)
abbrev st_law : Stmt := top 32
abbrev st__law_numbers : Stmt := top 21
abbrev st__law_weights : Stmt := top 27
abbrev st__law_case : Stmt := top 25
abbrev st__law_answers : Stmt := top 23
abbrev st__law_cell : Stmt := top 20
abbrev st__law_votes : Stmt := top 26
abbrev st_weighted : Stmt := top 18
abbrev st_is_heavy : Stmt := top 16
abbrev st_weight_of : Stmt := top 15
abbrev st_yes_sayers : Stmt := top 17
abbrev st__law_checked : Stmt := top 31
abbrev st_check_weights : Stmt := top 14
abbrev st_is_within : Stmt := top 7
abbrev st_is_whole : Stmt := top 6
abbrev st__law_word : Stmt := top 30
abbrev st__law_sets : Stmt := top 24
abbrev st__law_same : Stmt := top 22
abbrev st__law_weighted : Stmt := top 29
abbrev st__law_heavy : Stmt := top 28
abbrev st_most_say : Stmt := top 10
abbrev st_most_on : Stmt := top 9
abbrev st_yes_count : Stmt := top 8
theorem ok_law : DefOk tb h_law (defArgs st_law) (defBody st_law) (defScope st_law) where
  sc := ⟨rfl, rfl, rfl, by decide +kernel, rfl, by decide +kernel, by decide +kernel⟩
  np := by decide
  ms := by kernel_rfl
  ck := by kernel_rfl
  bd := fun _ _ _ _ _ _ _ _ us hl => match us, hl with | [_], _ => rfl
theorem ok__law_numbers : DefOk tb h__law_numbers (defArgs st__law_numbers) (defBody st__law_numbers) (defScope st__law_numbers) where
  sc := ⟨rfl, rfl, rfl, by decide +kernel, rfl, by decide +kernel, by decide +kernel⟩
  np := by decide
  ms := by kernel_rfl
  ck := by kernel_rfl
  bd := fun _ _ _ _ _ _ _ _ us hl => match us, hl with | [_, _, _], _ => rfl
theorem ok__law_weights : DefOk tb h__law_weights (defArgs st__law_weights) (defBody st__law_weights) (defScope st__law_weights) where
  sc := ⟨rfl, rfl, rfl, by decide +kernel, rfl, by decide +kernel, by decide +kernel⟩
  np := by decide
  ms := by kernel_rfl
  ck := by kernel_rfl
  bd := fun _ _ _ _ _ _ _ _ us hl => match us, hl with | [_, _, _], _ => rfl
theorem ok__law_case : DefOk tb h__law_case (defArgs st__law_case) (defBody st__law_case) (defScope st__law_case) where
  sc := ⟨rfl, rfl, rfl, by decide +kernel, rfl, by decide +kernel, by decide +kernel⟩
  np := by decide
  ms := by kernel_rfl
  ck := by kernel_rfl
  bd := fun _ _ _ _ _ _ _ _ us hl => match us, hl with | [_, _, _], _ => rfl
theorem ok__law_answers : DefOk tb h__law_answers (defArgs st__law_answers) (defBody st__law_answers) (defScope st__law_answers) where
  sc := ⟨rfl, rfl, rfl, by decide +kernel, rfl, by decide +kernel, by decide +kernel⟩
  np := by decide
  ms := by kernel_rfl
  ck := by kernel_rfl
  bd := fun _ _ _ _ _ _ _ _ us hl => match us, hl with | [_], _ => rfl
theorem ok__law_cell : DefOk tb h__law_cell (defArgs st__law_cell) (defBody st__law_cell) (defScope st__law_cell) where
  sc := ⟨rfl, rfl, rfl, by decide +kernel, rfl, by decide +kernel, by decide +kernel⟩
  np := by decide
  ms := by kernel_rfl
  ck := by kernel_rfl
  bd := fun _ _ _ _ _ _ _ _ us hl => match us, hl with | [_, _], _ => rfl
theorem ok__law_votes : DefOk tb h__law_votes (defArgs st__law_votes) (defBody st__law_votes) (defScope st__law_votes) where
  sc := ⟨rfl, rfl, rfl, by decide +kernel, rfl, by decide +kernel, by decide +kernel⟩
  np := by decide
  ms := by kernel_rfl
  ck := by kernel_rfl
  bd := fun _ _ _ _ _ _ _ _ us hl => match us, hl with | [_, _, _, _], _ => rfl
theorem ok_weighted : DefOk tb h_weighted (defArgs st_weighted) (defBody st_weighted) (defScope st_weighted) where
  sc := ⟨rfl, rfl, rfl, by decide +kernel, rfl, by decide +kernel, by decide +kernel⟩
  np := by decide
  ms := by kernel_rfl
  ck := by kernel_rfl
  bd := fun _ _ _ _ _ _ _ _ us hl => match us, hl with | [_, _], _ => rfl
theorem ok_is_heavy : DefOk tb h_is_heavy (defArgs st_is_heavy) (defBody st_is_heavy) (defScope st_is_heavy) where
  sc := ⟨rfl, rfl, rfl, by decide +kernel, rfl, by decide +kernel, by decide +kernel⟩
  np := by decide
  ms := by kernel_rfl
  ck := by kernel_rfl
  bd := fun _ _ _ _ _ _ _ _ us hl => match us, hl with | [_, _], _ => rfl
theorem ok_weight_of : DefOk tb h_weight_of (defArgs st_weight_of) (defBody st_weight_of) (defScope st_weight_of) where
  sc := ⟨rfl, rfl, rfl, by decide +kernel, rfl, by decide +kernel, by decide +kernel⟩
  np := by decide
  ms := by kernel_rfl
  ck := by kernel_rfl
  bd := fun _ _ _ _ _ _ _ _ us hl => match us, hl with | [_, _], _ => rfl
theorem ok_yes_sayers : DefOk tb h_yes_sayers (defArgs st_yes_sayers) (defBody st_yes_sayers) (defScope st_yes_sayers) where
  sc := ⟨rfl, rfl, rfl, by decide +kernel, rfl, by decide +kernel, by decide +kernel⟩
  np := by decide
  ms := by kernel_rfl
  ck := by kernel_rfl
  bd := fun _ _ _ _ _ _ _ _ us hl => match us, hl with | [_, _], _ => rfl
theorem ok__law_checked : DefOk tb h__law_checked (defArgs st__law_checked) (defBody st__law_checked) (defScope st__law_checked) where
  sc := ⟨rfl, rfl, rfl, by decide +kernel, rfl, by decide +kernel, by decide +kernel⟩
  np := by decide
  ms := by kernel_rfl
  ck := by kernel_rfl
  bd := fun _ _ _ _ _ _ _ _ us hl => match us, hl with | [_], _ => rfl
theorem ok_check_weights : DefOk tb h_check_weights (defArgs st_check_weights) (defBody st_check_weights) (defScope st_check_weights) where
  sc := ⟨rfl, rfl, rfl, by decide +kernel, rfl, by decide +kernel, by decide +kernel⟩
  np := by decide
  ms := by kernel_rfl
  ck := by kernel_rfl
  bd := fun _ _ _ _ _ _ _ _ us hl => match us, hl with | [_], _ => rfl
theorem ok_is_within : DefOk tb h_is_within (defArgs st_is_within) (defBody st_is_within) (defScope st_is_within) where
  sc := ⟨rfl, rfl, rfl, by decide +kernel, rfl, by decide +kernel, by decide +kernel⟩
  np := by decide
  ms := by kernel_rfl
  ck := by kernel_rfl
  bd := fun _ _ _ _ _ _ _ _ us hl => match us, hl with | [_, _, _], _ => rfl
theorem ok_is_whole : DefOk tb h_is_whole (defArgs st_is_whole) (defBody st_is_whole) (defScope st_is_whole) where
  sc := ⟨rfl, rfl, rfl, by decide +kernel, rfl, by decide +kernel, by decide +kernel⟩
  np := by decide
  ms := by kernel_rfl
  ck := by kernel_rfl
  bd := fun _ _ _ _ _ _ _ _ us hl => match us, hl with | [_], _ => rfl
theorem ok__law_word : DefOk tb h__law_word (defArgs st__law_word) (defBody st__law_word) (defScope st__law_word) where
  sc := ⟨rfl, rfl, rfl, by decide +kernel, rfl, by decide +kernel, by decide +kernel⟩
  np := by decide
  ms := by kernel_rfl
  ck := by kernel_rfl
  bd := fun _ _ _ _ _ _ _ _ us hl => match us, hl with | [_], _ => rfl
theorem ok__law_sets : DefOk tb h__law_sets (defArgs st__law_sets) (defBody st__law_sets) (defScope st__law_sets) where
  sc := ⟨rfl, rfl, rfl, by decide +kernel, rfl, by decide +kernel, by decide +kernel⟩
  np := by decide
  ms := by kernel_rfl
  ck := by kernel_rfl
  bd := fun _ _ _ _ _ _ _ _ us hl => match us, hl with | [_], _ => rfl
theorem ok__law_same : DefOk tb h__law_same (defArgs st__law_same) (defBody st__law_same) (defScope st__law_same) where
  sc := ⟨rfl, rfl, rfl, by decide +kernel, rfl, by decide +kernel, by decide +kernel⟩
  np := by decide
  ms := by kernel_rfl
  ck := by kernel_rfl
  bd := fun _ _ _ _ _ _ _ _ us hl => match us, hl with | [_, _], _ => rfl
theorem ok__law_weighted : DefOk tb h__law_weighted (defArgs st__law_weighted) (defBody st__law_weighted) (defScope st__law_weighted) where
  sc := ⟨rfl, rfl, rfl, by decide +kernel, rfl, by decide +kernel, by decide +kernel⟩
  np := by decide
  ms := by kernel_rfl
  ck := by kernel_rfl
  bd := fun _ _ _ _ _ _ _ _ us hl => match us, hl with | [_, _], _ => rfl
theorem ok__law_heavy : DefOk tb h__law_heavy (defArgs st__law_heavy) (defBody st__law_heavy) (defScope st__law_heavy) where
  sc := ⟨rfl, rfl, rfl, by decide +kernel, rfl, by decide +kernel, by decide +kernel⟩
  np := by decide
  ms := by kernel_rfl
  ck := by kernel_rfl
  bd := fun _ _ _ _ _ _ _ _ us hl => match us, hl with | [_, _], _ => rfl
theorem ok_most_say : DefOk tb h_most_say (defArgs st_most_say) (defBody st_most_say) (defScope st_most_say) where
  sc := ⟨rfl, rfl, rfl, by decide +kernel, rfl, by decide +kernel, by decide +kernel⟩
  np := by decide
  ms := by kernel_rfl
  ck := by kernel_rfl
  bd := fun _ _ _ _ _ _ _ _ us hl => match us, hl with | [_], _ => rfl
theorem ok_most_on : DefOk tb h_most_on (defArgs st_most_on) (defBody st_most_on) (defScope st_most_on) where
  sc := ⟨rfl, rfl, rfl, by decide +kernel, rfl, by decide +kernel, by decide +kernel⟩
  np := by decide
  ms := by kernel_rfl
  ck := by kernel_rfl
  bd := fun _ _ _ _ _ _ _ _ us hl => match us, hl with | [_, _], _ => rfl
theorem ok_yes_count : DefOk tb h_yes_count (defArgs st_yes_count) (defBody st_yes_count) (defScope st_yes_count) where
  sc := ⟨rfl, rfl, rfl, by decide +kernel, rfl, by decide +kernel, by decide +kernel⟩
  np := by decide
  ms := by kernel_rfl
  ck := by kernel_rfl
  bd := fun _ _ _ _ _ _ _ _ us hl => match us, hl with | [_, _], _ => rfl
def d_law : He.DefD := ⟨("law", none), "law", "law", defArgs st_law, defBody st_law, defScope st_law, [], []⟩
def d__law_numbers : He.DefD := ⟨("_law_numbers", none), "_law_numbers", "_law_numbers", defArgs st__law_numbers, defBody st__law_numbers, defScope st__law_numbers, [], []⟩
def d__law_weights : He.DefD := ⟨("_law_weights", none), "_law_weights", "_law_weights", defArgs st__law_weights, defBody st__law_weights, defScope st__law_weights, [], []⟩
def d__law_case : He.DefD := ⟨("_law_case", none), "_law_case", "_law_case", defArgs st__law_case, defBody st__law_case, defScope st__law_case, [], []⟩
def d__law_answers : He.DefD := ⟨("_law_answers", none), "_law_answers", "_law_answers", defArgs st__law_answers, defBody st__law_answers, defScope st__law_answers, [], []⟩
def d__law_cell : He.DefD := ⟨("_law_cell", none), "_law_cell", "_law_cell", defArgs st__law_cell, defBody st__law_cell, defScope st__law_cell, [], []⟩
def d__law_votes : He.DefD := ⟨("_law_votes", none), "_law_votes", "_law_votes", defArgs st__law_votes, defBody st__law_votes, defScope st__law_votes, [], []⟩
def d_weighted : He.DefD := ⟨("weighted", none), "weighted", "weighted", defArgs st_weighted, defBody st_weighted, defScope st_weighted, [], []⟩
def d_is_heavy : He.DefD := ⟨("is_heavy", none), "is_heavy", "is_heavy", defArgs st_is_heavy, defBody st_is_heavy, defScope st_is_heavy, [], []⟩
def d_weight_of : He.DefD := ⟨("weight_of", none), "weight_of", "weight_of", defArgs st_weight_of, defBody st_weight_of, defScope st_weight_of, [], []⟩
def d_yes_sayers : He.DefD := ⟨("yes_sayers", none), "yes_sayers", "yes_sayers", defArgs st_yes_sayers, defBody st_yes_sayers, defScope st_yes_sayers, [], []⟩
def d__law_checked : He.DefD := ⟨("_law_checked", none), "_law_checked", "_law_checked", defArgs st__law_checked, defBody st__law_checked, defScope st__law_checked, [], []⟩
def d_check_weights : He.DefD := ⟨("check_weights", none), "check_weights", "check_weights", defArgs st_check_weights, defBody st_check_weights, defScope st_check_weights, [], []⟩
def d_is_within : He.DefD := ⟨("is_within", none), "is_within", "is_within", defArgs st_is_within, defBody st_is_within, defScope st_is_within, [], []⟩
def d_is_whole : He.DefD := ⟨("is_whole", none), "is_whole", "is_whole", defArgs st_is_whole, defBody st_is_whole, defScope st_is_whole, [], []⟩
def d__law_word : He.DefD := ⟨("_law_word", none), "_law_word", "_law_word", defArgs st__law_word, defBody st__law_word, defScope st__law_word, [], []⟩
def d__law_sets : He.DefD := ⟨("_law_sets", none), "_law_sets", "_law_sets", defArgs st__law_sets, defBody st__law_sets, defScope st__law_sets, [], []⟩
def d__law_same : He.DefD := ⟨("_law_same", none), "_law_same", "_law_same", defArgs st__law_same, defBody st__law_same, defScope st__law_same, [], []⟩
def d__law_weighted : He.DefD := ⟨("_law_weighted", none), "_law_weighted", "_law_weighted", defArgs st__law_weighted, defBody st__law_weighted, defScope st__law_weighted, [], []⟩
def d__law_heavy : He.DefD := ⟨("_law_heavy", none), "_law_heavy", "_law_heavy", defArgs st__law_heavy, defBody st__law_heavy, defScope st__law_heavy, [], []⟩
def d_most_say : He.DefD := ⟨("most_say", none), "most_say", "most_say", defArgs st_most_say, defBody st_most_say, defScope st_most_say, [], []⟩
def d_most_on : He.DefD := ⟨("most_on", none), "most_on", "most_on", defArgs st_most_on, defBody st_most_on, defScope st_most_on, [], []⟩
def d_yes_count : He.DefD := ⟨("yes_count", none), "yes_count", "yes_count", defArgs st_yes_count, defBody st_yes_count, defScope st_yes_count, [], []⟩
def fn : List He.DefD := [d_law, d__law_numbers, d__law_weights, d__law_case, d__law_answers, d__law_cell, d__law_votes, d_weighted, d_is_heavy, d_weight_of, d_yes_sayers, d__law_checked, d_check_weights, d_is_within, d_is_whole, d__law_word, d__law_sets, d__law_same, d__law_weighted, d__law_heavy, d_most_say, d_most_on, d_yes_count]
def fa : List He.Fa := [.glo "law", .glo "_law_numbers", .glo "_law_weights", .glo "_law_case", .glo "_law_answers", .glo "_law_cell", .glo "_law_votes", .glo "weighted", .glo "is_heavy", .glo "weight_of", .glo "yes_sayers", .glo "_law_checked", .glo "check_weights", .glo "is_within", .glo "is_whole", .glo "_law_word", .glo "_law_sets", .glo "_law_same", .glo "_law_weighted", .glo "_law_heavy", .glo "most_say", .glo "most_on", .glo "yes_count", .free "bool", .free "enumerate", .free "int", .free "isinstance", .free "len", .free "list", .free "range", .free "str", .free "sum", .free "tuple", .int "MOST_WEIGHTS" 9, .int "MOST_WEIGHT" 1000]
abbrev R : PySem.W.OpenRow := PySem.W.OpenLaw.row PySem.Challenge.rw_juriesagree_k17_weights_and_their_outcom
abbrev hk : PySem.W.Hook := Jr.hookB 4 fa fn bn (xsOf tb)
def ob (s : PySem.W.SharedT) : Jr.AlB := Jr.obsBG 4 fa fn bn (xsOf tb) (HandSHeadRun.getT s)
theorem ob_eq (s : PySem.W.SharedT) : ob s = hk.obs s.abs := Jr.obsBG_eq (HandSHeadRun.getT_eq s)
theorem run (w : World) : HandSHeadRun.RunEq R (PySem.W.view R.prog [32]) hk ob 4000 [("JuryError" : PySem.Str), ("InvalidRow" : PySem.Str), ("WrongCount" : PySem.Str), ("InvalidWeight" : PySem.Str), ("is_whole" : PySem.Str), ("is_within" : PySem.Str), ("yes_count" : PySem.Str), ("most_on" : PySem.Str), ("most_say" : PySem.Str), ("MOST_WEIGHTS" : PySem.Str), ("MOST_WEIGHT" : PySem.Str), ("check_weights" : PySem.Str), ("weight_of" : PySem.Str), ("is_heavy" : PySem.Str), ("yes_sayers" : PySem.Str), ("weighted" : PySem.Str), ("_law_cell" : PySem.Str), ("_law_numbers" : PySem.Str), ("_law_same" : PySem.Str), ("_law_answers" : PySem.Str), ("_law_sets" : PySem.Str), ("_law_case" : PySem.Str), ("_law_votes" : PySem.Str), ("_law_weights" : PySem.Str), ("_law_heavy" : PySem.Str), ("_law_weighted" : PySem.Str), ("_law_word" : PySem.Str), ("_law_checked" : PySem.Str)] w := by
  intro os
  kernel_rfl
theorem topOk {K : PySem.W.Frag} {h : Heap} {mg : Str → Option Value} (X : K.In h) (G : h.Ns mainGlobals mg) (cb : Jr.SaysB fa fn bn (xsOf tb) K) : TopOk K mg tb gls where
  bi := fun x hx => by
    have hx : x ∈ [("bool" : Str), ("enumerate" : Str), ("int" : Str), ("isinstance" : Str), ("len" : Str), ("list" : Str), ("range" : Str), ("str" : Str), ("sum" : Str), ("tuple" : Str)] := hx
    simp only [List.mem_cons, List.not_mem_nil, or_false] at hx
    rcases hx with rfl | rfl | rfl | rfl | rfl | rfl | rfl | rfl | rfl | rfl
    · exact (He.free_ok X G (cb.d.fact 23 (f := .free "bool") rfl)).trans (by rfl)
    · exact (He.free_ok X G (cb.d.fact 24 (f := .free "enumerate") rfl)).trans (by rfl)
    · exact (He.free_ok X G (cb.d.fact 25 (f := .free "int") rfl)).trans (by rfl)
    · exact (He.free_ok X G (cb.d.fact 26 (f := .free "isinstance") rfl)).trans (by rfl)
    · exact (He.free_ok X G (cb.d.fact 27 (f := .free "len") rfl)).trans (by rfl)
    · exact (He.free_ok X G (cb.d.fact 28 (f := .free "list") rfl)).trans (by rfl)
    · exact (He.free_ok X G (cb.d.fact 29 (f := .free "range") rfl)).trans (by rfl)
    · exact (He.free_ok X G (cb.d.fact 30 (f := .free "str") rfl)).trans (by rfl)
    · exact (He.free_ok X G (cb.d.fact 31 (f := .free "sum") rfl)).trans (by rfl)
    · exact (He.free_ok X G (cb.d.fact 32 (f := .free "tuple") rfl)).trans (by rfl)
  gl := fun i x t e e2 => by
    match i, e, e2 with
    | 0, e, e2 =>
      cases e
      cases e2
      exact Jr.gl_int X G (cb.d.fact 33 (f := .int "MOST_WEIGHTS" 9) rfl)
    | 1, e, e2 =>
      cases e
      cases e2
      exact Jr.gl_int X G (cb.d.fact 34 (f := .int "MOST_WEIGHT" 1000) rfl)
    | n + 2, e, _ => exact nomatch (show none = some x from e)
  exs := xs_exs X G cb.x
  exm := xs_exm X G cb.x
  kit := xs_kit X G cb.x
  fn := fun f d e => by
    match f, e with
    | 0, e =>
      cases e
      obtain ⟨fd, F⟩ := cb.d.def_ 0 (d := d_law) rfl
      exact ⟨_, fd, _, _, _, He.glo_ok X G (cb.d.fact 0 (f := .glo "law") rfl), F, ok_law⟩
    | 1, e =>
      cases e
      obtain ⟨fd, F⟩ := cb.d.def_ 1 (d := d__law_numbers) rfl
      exact ⟨_, fd, _, _, _, He.glo_ok X G (cb.d.fact 1 (f := .glo "_law_numbers") rfl), F, ok__law_numbers⟩
    | 2, e =>
      cases e
      obtain ⟨fd, F⟩ := cb.d.def_ 2 (d := d__law_weights) rfl
      exact ⟨_, fd, _, _, _, He.glo_ok X G (cb.d.fact 2 (f := .glo "_law_weights") rfl), F, ok__law_weights⟩
    | 3, e =>
      cases e
      obtain ⟨fd, F⟩ := cb.d.def_ 3 (d := d__law_case) rfl
      exact ⟨_, fd, _, _, _, He.glo_ok X G (cb.d.fact 3 (f := .glo "_law_case") rfl), F, ok__law_case⟩
    | 4, e =>
      cases e
      obtain ⟨fd, F⟩ := cb.d.def_ 4 (d := d__law_answers) rfl
      exact ⟨_, fd, _, _, _, He.glo_ok X G (cb.d.fact 4 (f := .glo "_law_answers") rfl), F, ok__law_answers⟩
    | 5, e =>
      cases e
      obtain ⟨fd, F⟩ := cb.d.def_ 5 (d := d__law_cell) rfl
      exact ⟨_, fd, _, _, _, He.glo_ok X G (cb.d.fact 5 (f := .glo "_law_cell") rfl), F, ok__law_cell⟩
    | 6, e =>
      cases e
      obtain ⟨fd, F⟩ := cb.d.def_ 6 (d := d__law_votes) rfl
      exact ⟨_, fd, _, _, _, He.glo_ok X G (cb.d.fact 6 (f := .glo "_law_votes") rfl), F, ok__law_votes⟩
    | 7, e =>
      cases e
      obtain ⟨fd, F⟩ := cb.d.def_ 7 (d := d_weighted) rfl
      exact ⟨_, fd, _, _, _, He.glo_ok X G (cb.d.fact 7 (f := .glo "weighted") rfl), F, ok_weighted⟩
    | 8, e =>
      cases e
      obtain ⟨fd, F⟩ := cb.d.def_ 8 (d := d_is_heavy) rfl
      exact ⟨_, fd, _, _, _, He.glo_ok X G (cb.d.fact 8 (f := .glo "is_heavy") rfl), F, ok_is_heavy⟩
    | 9, e =>
      cases e
      obtain ⟨fd, F⟩ := cb.d.def_ 9 (d := d_weight_of) rfl
      exact ⟨_, fd, _, _, _, He.glo_ok X G (cb.d.fact 9 (f := .glo "weight_of") rfl), F, ok_weight_of⟩
    | 10, e =>
      cases e
      obtain ⟨fd, F⟩ := cb.d.def_ 10 (d := d_yes_sayers) rfl
      exact ⟨_, fd, _, _, _, He.glo_ok X G (cb.d.fact 10 (f := .glo "yes_sayers") rfl), F, ok_yes_sayers⟩
    | 11, e =>
      cases e
      obtain ⟨fd, F⟩ := cb.d.def_ 11 (d := d__law_checked) rfl
      exact ⟨_, fd, _, _, _, He.glo_ok X G (cb.d.fact 11 (f := .glo "_law_checked") rfl), F, ok__law_checked⟩
    | 12, e =>
      cases e
      obtain ⟨fd, F⟩ := cb.d.def_ 12 (d := d_check_weights) rfl
      exact ⟨_, fd, _, _, _, He.glo_ok X G (cb.d.fact 12 (f := .glo "check_weights") rfl), F, ok_check_weights⟩
    | 13, e =>
      cases e
      obtain ⟨fd, F⟩ := cb.d.def_ 13 (d := d_is_within) rfl
      exact ⟨_, fd, _, _, _, He.glo_ok X G (cb.d.fact 13 (f := .glo "is_within") rfl), F, ok_is_within⟩
    | 14, e =>
      cases e
      obtain ⟨fd, F⟩ := cb.d.def_ 14 (d := d_is_whole) rfl
      exact ⟨_, fd, _, _, _, He.glo_ok X G (cb.d.fact 14 (f := .glo "is_whole") rfl), F, ok_is_whole⟩
    | 15, e =>
      cases e
      obtain ⟨fd, F⟩ := cb.d.def_ 15 (d := d__law_word) rfl
      exact ⟨_, fd, _, _, _, He.glo_ok X G (cb.d.fact 15 (f := .glo "_law_word") rfl), F, ok__law_word⟩
    | 16, e =>
      cases e
      obtain ⟨fd, F⟩ := cb.d.def_ 16 (d := d__law_sets) rfl
      exact ⟨_, fd, _, _, _, He.glo_ok X G (cb.d.fact 16 (f := .glo "_law_sets") rfl), F, ok__law_sets⟩
    | 17, e =>
      cases e
      obtain ⟨fd, F⟩ := cb.d.def_ 17 (d := d__law_same) rfl
      exact ⟨_, fd, _, _, _, He.glo_ok X G (cb.d.fact 17 (f := .glo "_law_same") rfl), F, ok__law_same⟩
    | 18, e =>
      cases e
      obtain ⟨fd, F⟩ := cb.d.def_ 18 (d := d__law_weighted) rfl
      exact ⟨_, fd, _, _, _, He.glo_ok X G (cb.d.fact 18 (f := .glo "_law_weighted") rfl), F, ok__law_weighted⟩
    | 19, e =>
      cases e
      obtain ⟨fd, F⟩ := cb.d.def_ 19 (d := d__law_heavy) rfl
      exact ⟨_, fd, _, _, _, He.glo_ok X G (cb.d.fact 19 (f := .glo "_law_heavy") rfl), F, ok__law_heavy⟩
    | 20, e =>
      cases e
      obtain ⟨fd, F⟩ := cb.d.def_ 20 (d := d_most_say) rfl
      exact ⟨_, fd, _, _, _, He.glo_ok X G (cb.d.fact 20 (f := .glo "most_say") rfl), F, ok_most_say⟩
    | 21, e =>
      cases e
      obtain ⟨fd, F⟩ := cb.d.def_ 21 (d := d_most_on) rfl
      exact ⟨_, fd, _, _, _, He.glo_ok X G (cb.d.fact 21 (f := .glo "most_on") rfl), F, ok_most_on⟩
    | 22, e =>
      cases e
      obtain ⟨fd, F⟩ := cb.d.def_ 22 (d := d_yes_count) rfl
      exact ⟨_, fd, _, _, _, He.glo_ok X G (cb.d.fact 22 (f := .glo "yes_count") rfl), F, ok_yes_count⟩
    | n + 23, e => exact nomatch (show none = some d from e)
theorem facts {P : Program} {w : World} {K : PySem.W.Frag} {h : Heap} {mg : Str → Option Value} {f : Addr} (X : K.In h) (G : h.Ns mainGlobals mg) (hfa : mg ("law" : Str) = some (.ref f)) (cb : Jr.SaysB fa fn bn (xsOf tb) K) :
    ∃ fd : FuncData, (∀ (s : Shared) (v : Value), BindsTo s fd ⟨[v], []⟩ [("script", v)]) ∧ ∀ base : Heap, K.In base → base.Ns mainGlobals mg → FnG P w K mg base (CXe P) 12 f fd ["script"] (spF K mg 1 h_law.fr h_law.dfr (runF fnsA gls 2000 12 0)) := by
  obtain ⟨fd, F⟩ := cb.d.def_ 0 (d := d_law) rfl
  have e := hfa.symm.trans (He.glo_ok X G (cb.d.fact 0 (f := .glo "law") rfl))
  cases e
  have b := FunD.bindsA (ps := ["script"]) F fun _ _ _ _ _ _ us hl => match us, hl with | [_], _ => rfl
  exact ⟨fd, fun s v => b s [v] rfl, fun base _ _ => Jr.FnG.cxe (fn_all 2000 (topOk X G cb) 12 0 h_law rfl _ fd _ _ _ F ok_law)⟩
end Lk17
set_option maxHeartbeats 0

open PySem PySem.W PySem.Calls PyProof.Rows
theorem PySem.Challenge.cw_juriesagree_k17_weights_and_their_outcom_holds : PySem.Challenge.rw_juriesagree_k17_weights_and_their_outcom.Holds := by
  w_on; o_law
  refine HandSHeadRun.head_any (r := OpenLaw.row PySem.Challenge.rw_juriesagree_k17_weights_and_their_outcom) (q := view (OpenLaw.row PySem.Challenge.rw_juriesagree_k17_weights_and_their_outcom).prog [32]) (H := Lk17.hk) (ob := Lk17.ob) (M := 4000) (loose := [("JuryError" : PySem.Str), ("InvalidRow" : PySem.Str), ("WrongCount" : PySem.Str), ("InvalidWeight" : PySem.Str), ("is_whole" : PySem.Str), ("is_within" : PySem.Str), ("yes_count" : PySem.Str), ("most_on" : PySem.Str), ("most_say" : PySem.Str), ("MOST_WEIGHTS" : PySem.Str), ("MOST_WEIGHT" : PySem.Str), ("check_weights" : PySem.Str), ("weight_of" : PySem.Str), ("is_heavy" : PySem.Str), ("yes_sayers" : PySem.Str), ("weighted" : PySem.Str), ("_law_cell" : PySem.Str), ("_law_numbers" : PySem.Str), ("_law_same" : PySem.Str), ("_law_answers" : PySem.Str), ("_law_sets" : PySem.Str), ("_law_case" : PySem.Str), ("_law_votes" : PySem.Str), ("_law_weights" : PySem.Str), ("_law_heavy" : PySem.Str), ("_law_weighted" : PySem.Str), ("_law_word" : PySem.Str), ("_law_checked" : PySem.Str)]) (d := HandSHeadRun.topDef (OpenLaw.row PySem.Challenge.rw_juriesagree_k17_weights_and_their_outcom).prog 32) (kwd := []) Lk17.ob_eq
    (by kernel_rfl) (fun s => by kernel_rfl) Lk17.run (by kernel_rfl) (by kernel_rfl) (by kernel_rfl) (by rfl) (by first | assumption | decide +kernel) (by decide +kernel) ⟨rfl, rfl, rfl, rfl, rfl, by decide +kernel⟩ ?hw ?hc
  case hw => w_witness2
  case hc =>
    refine Jr.walk_ofG (l := PySem.Challenge.rw_juriesagree_k17_weights_and_their_outcom) (n := 63) (k := 12) (x := "script") (CX := Jr.CXe (PySem.Challenge.rw_juriesagree_k17_weights_and_their_outcom).prog) rfl (by decide) (by kernel_rfl) ⟨rfl, by decide, by decide⟩ ?F (fun _ _ _ _ z => Jr.cxe_false z)
    intro w mg fa h Y G hmg0
    obtain ⟨K, KX, c⟩ := Y
    have hmg : mg ("law" : PySem.Str) = some (.ref fa) := by
      have e : (HandSHeadRun.topDef (OpenLaw.row PySem.Challenge.rw_juriesagree_k17_weights_and_their_outcom).prog 32).name = ("law" : PySem.Str) := by kernel_rfl
      rw [← e]
      exact hmg0
    obtain ⟨fd, hb, hF⟩ := Lk17.facts (P := (PySem.Challenge.rw_juriesagree_k17_weights_and_their_outcom).prog) (w := w) KX G hmg c
    exact ⟨K, fd, _, KX, hb, fun H a ns hl hO hS => Jr.law_sp (K := K) (mg := mg) (tb := Lk17.tb) (gls := Lk17.gls) (fuel := 2000) (k := 12) (f := 0) (n := 63) (fr := Lk17.h_law.fr) (dfr := Lk17.h_law.dfr) Lk17.plainA H a ns hl hO hS, hF⟩
