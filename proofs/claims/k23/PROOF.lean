import PyProof.Rows.All
import Wide.All
import OpenK.AllK
import Wide.FinOn
import HandS.ForMost
import HandS.TupAny
import HandS.TupMul
import HandS.Deep
import HandS.Exc
import HandS.Flow
import HandS.IsInst
import HandS.SortInts
import HandS.More
import PyProof.TupleOfSeq
import HandS.CallSlots
import HandS.WordsExc
import HandS.Comp
import HandS.Iter
import HandS.DictComp
import HandS.Small
import HandS.GenList
import HandS.AnyAll
import PyProof.TupleOfGen
import HandS.Dict
import HandS.Words
import HandS.EndTab
import HandS.HeadWalk
import HandS.HeadHook4
import HandS.Head0
import HandS.Head1
import HandS.Head2
import HandS.HeadEnd
import HandS.HeadHook1
import HandS.HeadHook2
import PySem.Challenge.RW_weakcourt_k23_what_objects_retain
set_option Elab.async false
set_option linter.all false
set_option maxRecDepth 100000
set_option maxHeartbeats 4000000
/-! the small language: its terms, its values, what a term gives -/
namespace Wk
open PySem

abbrev D := PyData

/-- an exception: the number of its class, its fields -/
structure Ex where
  cls : Nat
  args : List D

/-- what a container holds -/
inductive Ct where
  | lst (xs : List D)
  | dct (kvs : List (D × D))
  | set (xs : List D)
/-- a slot: a datum; a container of its own; one that is read alone; a caller's that is changed -/
inductive Sl where
  | im (d : D)
  | own (c : Ct)
  | bor (c : Ct)
  | chg (c : Ct)
abbrev Sv := List (Option Sl)

inductive R (α : Type) where
  | ok (a : α)
  | exc (x : Ex) (ρ : Sv)
  | bad

def R.bind {α β : Type} (m : R α) (f : α → R β) : R β := match m with
  | .ok a => f a
  | .exc x ρ => .exc x ρ
  | .bad => .bad
instance : Monad R where
  pure := .ok
  bind := R.bind
@[simp] theorem R.ok_bind {α β : Type} (a : α) (f : α → R β) : (R.ok a >>= f) = f a := rfl
@[simp] theorem R.exc_bind {α β : Type} (x : Ex) (ρ : Sv) (f : α → R β) : (R.exc x ρ >>= f) = .exc x ρ := rfl
@[simp] theorem R.bad_bind {α β : Type} (f : α → R β) : ((R.bad : R α) >>= f) = .bad := rfl
@[simp] theorem R.pure_eq {α : Type} (a : α) : (pure a : R α) = .ok a := rfl
theorem R.bind_ok {α β : Type} {m : R α} {f : α → R β} {b : β} (h : (m >>= f) = .ok b) : ∃ a, m = .ok a ∧ f a = .ok b := by
  cases m with
  | ok a => exact ⟨a, rfl, h⟩
  | exc x ρ => cases h
  | bad => cases h
theorem R.map_ok {α β : Type} {m : R α} {f : α → β} {b : β} (h : (m >>= fun a => R.ok (f a)) = .ok b) : ∃ a, m = .ok a ∧ f a = b := by
  obtain ⟨a, h1, h2⟩ := R.bind_ok h
  cases h2
  exact ⟨a, h1, rfl⟩
/-- nothing is raised -/
def R.nox {α : Type} (m : R α) : R α := match m with
  | .ok a => .ok a
  | _ => .bad
theorem R.nox_ok {α : Type} {m : R α} {a : α} (h : m.nox = .ok a) : m = .ok a := by
  cases m with
  | ok b => exact h
  | exc x ρ => cases h
  | bad => cases h
/-- a test of the evaluator -/
def guardR (b : Bool) {α : Type} (m : R α) : R α := if b = true then m else .bad
theorem guardR_ok {b : Bool} {α : Type} {m : R α} {a : α} (h : guardR b m = .ok a) : b = true ∧ m = .ok a := by
  unfold guardR at h
  split at h
  · exact ⟨by assumption, h⟩
  · cases h
@[simp] theorem guardR_true {α : Type} (m : R α) : guardR true m = m := rfl
@[simp] theorem guardR_false {α : Type} (m : R α) : guardR false m = .bad := rfl

/-- what is read: a datum (a list of any mode, too), a dict, a set -/
inductive Cn where
  | dat (d : D)
  | dct (kvs : List (D × D))
  | set (xs : List D)
def Ct.cn : Ct → Cn
  | .lst xs => .dat (.list xs)
  | .dct kvs => .dct kvs
  | .set xs => .set xs
def Sl.cn : Sl → Cn
  | .im d => .dat d
  | .own c => c.cn
  | .bor c => c.cn
  | .chg c => c.cn
def Cn.asD : Cn → R D
  | .dat d => .ok d
  | _ => .bad

/-! ### operations on data -/
inductive Bop where
  | add | sub | mul | fdiv | mod | pow
  deriving DecidableEq
inductive Cop where
  | eq | ne | lt | le | gt | ge
  deriving DecidableEq

def lineN : Nat := 1000000
def small64 (i : Int) : Bool := decide (-(2 ^ 64) < i) && decide (i < 2 ^ 64)

def binD : Bop → D → D → R D
  | .add, .int i, .int j => .ok (.int (i + j))
  | .add, .str a, .str b => guardR (decide (a.length + b.length ≤ lineN)) (.ok (.str (a ++ b)))
  | .add, .tuple xs, .tuple ys => guardR (decide (xs.length + ys.length ≤ lineN)) (.ok (.tuple (xs ++ ys)))
  | .add, .list xs, .list ys => guardR (decide (xs.length + ys.length ≤ lineN)) (.ok (.list (xs ++ ys)))
  | .sub, .int i, .int j => .ok (.int (i - j))
  | .mul, .int i, .int j => guardR (small64 i || small64 j) (.ok (.int (i * j)))
  | .fdiv, .int i, .int j => guardR (decide (0 < j) && decide (j < 1073741824)) (.ok (.int (i / j)))
  | .mod, .int i, .int j => guardR (decide (0 < j)) (.ok (.int (i % j)))
  | .pow, .int i, .int j => guardR (decide (0 ≤ j) && (decide (j ≤ 1000000) && decide (i.natAbs < 2 ^ 64))) (.ok (.int (i ^ j.toNat)))
  | .mul, .tuple xs, .int j => guardR (decide (2 ≤ j) && (decide (j ≤ 1000) && (decide (xs.length ≤ 1000) && decide (0 < xs.length)))) (.ok (.tuple (List.replicate j.toNat xs).flatten))
  | _, _, _ => .bad

def depthOk (a b : D) : Bool := decide (min a.depth b.depth ≤ 60)

def cmpD : Cop → D → D → R Bool
  | .eq, a, b => guardR (depthOk a b) (.ok (PyData.eqv a b))
  | .ne, a, b => guardR (depthOk a b) (.ok (!PyData.eqv a b))
  | .lt, .int i, .int j => .ok (decide (i < j))
  | .le, .int i, .int j => .ok (decide (i ≤ j))
  | .gt, .int i, .int j => .ok (decide (j < i))
  | .ge, .int i, .int j => .ok (decide (j ≤ i))
  | _, _, _ => .bad

def isNone : D → Bool
  | .none => true
  | _ => false
def truthD : D → R Bool
  | .none => .ok false
  | .bool b => .ok b
  | .int i => .ok (i != 0)
  | .str s => .ok ((s.length : Int) != 0)
  | .list xs => .ok (!xs.isEmpty)
  | .tuple xs => .ok (!xs.isEmpty)
  | .dict _ => .bad
def truthC : Cn → R Bool
  | .dat d => truthD d
  | _ => .bad

def nonD (o : Option D) : D := o.getD .none
/-- a key of a dict -/
def isKey : D → Bool
  | .int _ => true
  | .str _ => true
  | _ => false
def lookD (k : D) (kvs : List (D × D)) : Option D := (kvs.find? fun p => PyData.eqv p.1 k).map (·.2)
def putD (k v : D) (kvs : List (D × D)) : List (D × D) :=
  if (kvs.any fun p => PyData.eqv p.1 k) = true then kvs.map (fun p => if PyData.eqv p.1 k = true then (p.1, v) else p) else kvs ++ [(k, v)]

def memD (x : D) : Cn → R Bool
  | .dat (.list xs) => guardR (decide (min (PyData.depthAll xs) x.depth ≤ 59)) (.ok (xs.any fun z => PyData.eqv z x))
  | .dat (.tuple xs) => guardR (decide (min (PyData.depthAll xs) x.depth ≤ 59)) (.ok (xs.any fun z => PyData.eqv z x))
  | .dct kvs => guardR (isKey x) (.ok (lookD x kvs).isSome)
  | _ => .bad
def idxD : Cn → D → R D
  | .dat (.list xs), .int i => match L2.atI xs i with
    | some v => .ok v
    | none => .bad
  | .dat (.tuple xs), .int i => match L2.atI xs i with
    | some v => .ok v
    | none => .bad
  | .dct kvs, k => guardR (isKey k) (match lookD k kvs with
    | some v => .ok v
    | none => .bad)
  | _, _ => .bad
def lenC : Cn → R D
  | .dat (.list xs) => .ok (.int xs.length)
  | .dat (.tuple xs) => .ok (.int xs.length)
  | .dat (.str s) => .ok (.int s.length)
  | .dct kvs => .ok (.int kvs.length)
  | _ => .bad
def cutD (xs : List D) (lo hi : Option Int) : List D := (xs.drop (HT.sIx xs.length 0 lo)).take (HT.sIx xs.length xs.length hi - HT.sIx xs.length 0 lo)
def sliceC : Cn → Option Int → Option Int → R Sl
  | .dat (.list xs), lo, hi => .ok (.own (.lst (cutD xs lo hi)))
  | .dat (.tuple xs), lo, hi => .ok (.im (.tuple (cutD xs lo hi)))
  | _, _, _ => .bad

/-! ### terms -/
/-- a target -/
inductive Pt where
  | v (i : Nat)
  | t (ps : List Pt)
/-- conversions -/
inductive Cv where
  | tup | lst | int | srt
  deriving DecidableEq
inductive Ty where
  | int | bool | tup | str | lst
  deriving DecidableEq
/-- what takes a generator expression -/
inductive Gk where
  | tup | any | all | srt | sum
  deriving DecidableEq

mutual
inductive E where
  | lit (d : D)
  | var (i : Nat)
  | mov (i : Nat)
  | glb (x : Str) (d : D)
  | tup (as : Es)
  | lst (as : Es)
  | bin (op : Bop) (a b : E)
  | neg (a : E)
  | cmp (op : Cop) (a b : E)
  | isn (ng : Bool) (a : E)
  | mem (ng : Bool) (a : E) (b : Rdo)
  | and (a b : E)
  | or (a b : E)
  | not (a : E)
  | ite (c a b : E)
  | idx (a : Rdo) (i : E)
  | slc (a : Rdo) (lo hi : Eo)
  | len (a : Rdo)
  | cv (k : Cv) (a : Rdo)
  | isi (a : Rdo) (t : Ty)
  | get (a : Rdo) (k : E)
  | get2 (a : Rdo) (k d : E)
  | call (f : Nat) (as : As)
  | lc (elt : E) (p : Pt) (s : Sc) (c : Eo) (own : List Nat)
  | lc2 (elt : E) (p : Pt) (s : Sc) (c : Eo) (p2 : Pt) (s2 : Sc) (c2 : Eo) (own : List Nat)
  | gen (k : Gk) (elt : E) (p : Pt) (s : Sc) (c : Eo) (own : List Nat)
  | dc (k v : E) (p : Pt) (s : Sc) (c : Eo) (own : List Nat)
  | dsp0
  | pop (i : Nat)
inductive Es where
  | nil
  | cons (a : E) (as : Es)
inductive Eo where
  | no
  | so (a : E)
/-- what is read: a term's value, a slot as it is -/
inductive Rdo where
  | e (a : E)
  | s (i : Nat)
/-- an argument: a value; a slot that is read; a slot that is changed -/
inductive As where
  | nil
  | e (a : E) (as : As)
  | bor (i : Nat) (as : As)
  | chg (i : Nat) (as : As)
/-- what a for walks -/
inductive Sc where
  | it (a : Rdo)
  | rng1 (a : E)
  | rng2 (a b : E)
  | enum (a : Rdo)
  | zip (a b : Rdo)
end

mutual
inductive S where
  | asg (p : Pt) (a : E)
  | aug (i : Nat) (op : Bop) (a : E)
  | app (i : Nat) (a : E)
  | ext (i : Nat) (a : Rdo)
  | sti (i : Nat) (k a : E)
  | ex (a : E)
  | iff (c : E) (t e : Ss)
  | whl (c : E) (b : Ss)
  | for (p : Pt) (s : Sc) (b : Ss)
  | ret (a : E)
  | ret0
  | brk
  | cnt
  | pas
inductive Ss where
  | nil
  | cons (s : S) (ss : Ss)
end

/-! ### what a term gives -/
def getS (ρ : Sv) (i : Nat) : R Sl := match ρ[i]? with
  | some (some s) => .ok s
  | _ => .bad
def setS (ρ : Sv) (i : Nat) (s : Sl) : Sv := ρ.set i (some s)
def wipeS (ρ : Sv) : List Nat → Sv
  | [] => ρ
  | i :: is => (wipeS ρ is).set i none
/-- slots as they stood -/
def backS (ρ ρ0 : Sv) : List Nat → Sv
  | [] => ρ
  | i :: is => (backS ρ ρ0 is).set i (ρ0[i]?.getD none)
/-- slots that were read alone are one's own again -/
def unlock (ρ ρ0 : Sv) : List Nat → Sv
  | [] => ρ
  | i :: is => match ρ[i]?, ρ0[i]? with
    | some (some (.bor c)), some (some (.own _)) => (unlock ρ ρ0 is).set i (some (.own c))
    | some (some (.bor c)), some (some (.chg _)) => (unlock ρ ρ0 is).set i (some (.chg c))
    | _, _ => unlock ρ ρ0 is
/-- a slot's value as a datum; a list of one's own is not changed from now on -/
def varS (ρ : Sv) (i : Nat) : R (Sl × Sv) := match ρ[i]? with
  | some (some (.im d)) => .ok (.im d, ρ)
  | some (some (.own (.lst xs))) => .ok (.im (.list xs), ρ.set i (some (.im (.list xs))))
  | _ => .bad
/-- a slot's value handed on: the slot is empty -/
def movS (ρ : Sv) (i : Nat) : R (Sl × Sv) := match ρ[i]? with
  | some (some (.im d)) => .ok (.im d, ρ)
  | some (some (.own c)) => .ok (.own c, ρ.set i none)
  | _ => .bad
/-- the value as a datum -/
def datS : Sl → R D
  | .im d => .ok d
  | .own (.lst xs) => .ok (.list xs)
  | _ => .bad
def datR (m : R (Sl × Sv)) : R (D × Sv) := m >>= fun r => datS r.1 >>= fun d => .ok (d, r.2)

mutual
def bindP : Pt → Sl → Sv → R Sv
  | .v i, s, ρ => match s with
    | .im d => .ok (ρ.set i (some (.im d)))
    | .own c => .ok (ρ.set i (some (.own c)))
    | _ => .bad
  | .t ps, .im (.tuple ds), ρ => bindPs ps ds ρ
  | .t _, _, _ => .bad
def bindPs : List Pt → List D → Sv → R Sv
  | [], [], ρ => .ok ρ
  | p :: ps, d :: ds, ρ => bindP p (.im d) ρ >>= fun ρ1 => bindPs ps ds ρ1
  | _, _, _ => .bad
end

def isDctC : Cn → Bool
  | .dct _ => true
  | _ => false
def getD1 : Cn → D → R D
  | .dct kvs, k => guardR (isKey k) (.ok (nonD (lookD k kvs)))
  | _, _ => .bad
def getD2 : Cn → D → D → R D
  | .dct kvs, k, d => guardR (isKey k) (.ok ((lookD k kvs).getD d))
  | _, _, _ => .bad
/-- the items of what is walked -/
def itemsE : Cn → R (List D)
  | .dat (.list xs) => .ok xs
  | .dat (.tuple xs) => .ok xs
  | _ => .bad
/-- .. of a slot: a dict of one's own, too -/
def itemsS (ρ : Sv) (i : Nat) : Cn → R (List D)
  | .dat (.list xs) => .ok xs
  | .dat (.tuple xs) => .ok xs
  | .dct kvs => match ρ[i]? with
    | some (some (.own _)) => .ok (kvs.map (·.1))
    | _ => .bad
  | _ => .bad
def slotC (ρ : Sv) (i : Nat) : R Cn := getS ρ i >>= fun s => .ok s.cn
/-- .. no dict -/
def srcN (s : Sc) (m : R (List D × Sv)) (ρ : Sv) : R (List D × Sv) := match s with
  | .it (.s i) => slotC ρ i >>= fun c => itemsE c >>= fun xs => .ok (xs, ρ)
  | _ => m
def range62 (i : Int) : Bool := decide (i.natAbs < 2 ^ 62)
def rangeD (lo : Int) : Nat → List D
  | 0 => []
  | n + 1 => .int lo :: rangeD (lo + 1) n
def enumD : Int → List D → List D
  | _, [] => []
  | i, x :: xs => .tuple [.int i, x] :: enumD (i + 1) xs
def zipD : List D → List D → List D
  | x :: xs, y :: ys => .tuple [x, y] :: zipD xs ys
  | _, _ => []

/-- a comprehension's turns: what they give -/
def loopC (p : Pt) (c : Sv → R (Bool × Sv)) (f : Sv → R (D × Sv)) (own : List Nat) : List D → Sv → R (List D × Sv)
  | [], ρ => .ok ([], ρ)
  | x :: xs, ρ => bindP p (.im x) ρ >>= fun ρ1 => c ρ1 >>= fun r => match r with
    | (true, ρ2) => f ρ2 >>= fun r3 => loopC p c f own xs (wipeS r3.2 own) >>= fun r4 => .ok (r3.1 :: r4.1, r4.2)
    | (false, ρ2) => loopC p c f own xs (wipeS ρ2 own)
/-- .. whose turns give rows -/
def loopCC (p : Pt) (c : Sv → R (Bool × Sv)) (f : Sv → R (List D × Sv)) (own : List Nat) : List D → Sv → R (List D × Sv)
  | [], ρ => .ok ([], ρ)
  | x :: xs, ρ => bindP p (.im x) ρ >>= fun ρ1 => c ρ1 >>= fun r => match r with
    | (true, ρ2) => f ρ2 >>= fun r3 => loopCC p c f own xs (wipeS r3.2 own) >>= fun r4 => .ok (r3.1 ++ r4.1, r4.2)
    | (false, ρ2) => loopCC p c f own xs (wipeS ρ2 own)
/-- any, all -/
def loopAny (b : Bool) (p : Pt) (c : Sv → R (Bool × Sv)) (f : Sv → R (Bool × Sv)) (own : List Nat) : List D → Sv → R (Bool × Sv)
  | [], ρ => .ok (!b, ρ)
  | x :: xs, ρ => bindP p (.im x) ρ >>= fun ρ1 => c ρ1 >>= fun r => match r with
    | (true, ρ2) => f ρ2 >>= fun r3 => if r3.1 = b then .ok (b, r3.2) else loopAny b p c f own xs (wipeS r3.2 own)
    | (false, ρ2) => loopAny b p c f own xs (wipeS ρ2 own)
/-- a dict comprehension's turns -/
def loopD (p : Pt) (c : Sv → R (Bool × Sv)) (f : Sv → R ((D × D) × Sv)) (own : List Nat) : List D → List (D × D) → Sv → R (List (D × D) × Sv)
  | [], acc, ρ => .ok (acc, ρ)
  | x :: xs, acc, ρ => bindP p (.im x) ρ >>= fun ρ1 => c ρ1 >>= fun r => match r with
    | (true, ρ2) => f ρ2 >>= fun r3 => guardR (isKey r3.1.1) (loopD p c f own xs (putD r3.1.1 r3.1.2 acc) (wipeS r3.2 own))
    | (false, ρ2) => loopD p c f own xs acc (wipeS ρ2 own)

/-- slots of one's own read alone for a while -/
def lockS (ρ : Sv) : List Nat → Sv
  | [] => ρ
  | i :: is => match ρ[i]? with
    | some (some (.own c)) => (lockS ρ is).set i (some (.bor c))
    | some (some (.chg c)) => (lockS ρ is).set i (some (.bor c))
    | _ => lockS ρ is
/-- every container read alone -/
def dimS (ρ : Sv) : Sv := ρ.map fun o => match o with
  | some (.own c) => some (.bor c)
  | some (.chg c) => some (.bor c)
  | o => o

def isIntD : D → Bool
  | .int _ => true
  | _ => false
def isStrD : D → Bool
  | .str _ => true
  | _ => false
def leD (a b : D) : Bool := match a, b with
  | .int i, .int j => decide (i ≤ j)
  | _, _ => false
def sortC : Cn → R (List D)
  | .dat (.list xs) => guardR (xs.all isIntD) (.ok (xs.mergeSort leD))
  | .dat (.tuple xs) => guardR (xs.all isIntD) (.ok (xs.mergeSort leD))
  | .dct kvs => guardR ((kvs.map (·.1)).all isIntD) (.ok ((kvs.map (·.1)).mergeSort leD))
  | _ => .bad
def tupC : Cn → R Sl
  | .dat (.list xs) => .ok (.im (.tuple xs))
  | .dat (.tuple xs) => .ok (.im (.tuple xs))
  | _ => .bad
def lstC : Cn → R Sl
  | .dat (.list xs) => .ok (.own (.lst xs))
  | .dat (.tuple xs) => .ok (.own (.lst xs))
  | _ => .bad
def intC : Cn → R Sl
  | .dat (.int i) => .ok (.im (.int i))
  | _ => .bad
def srtC (c : Cn) : R Sl := sortC c >>= fun xs => .ok (.own (.lst xs))
def cvC : Cv → Cn → R Sl
  | .tup => tupC
  | .lst => lstC
  | .int => intC
  | .srt => srtC
def isTy : Ty → D → Bool
  | .int, .int _ => true
  | .int, .bool _ => true
  | .bool, .bool _ => true
  | .tup, .tuple _ => true
  | .str, .str _ => true
  | .lst, .list _ => true
  | _, _ => false

def isiC (t : Ty) : Cn → R Bool
  | .dat (.dict _) => .bad
  | .dat d => .ok (isTy t d)
  | _ => .bad
/-- a call's arguments: what a slot of the callee holds; which slots get a changed container back -/
def argE : Sl → R Sl
  | .im d => .ok (.im d)
  | .own c => .ok (.bor c)
  | _ => .bad
def borS (ρ : Sv) (i : Nat) : R Sl := match ρ[i]? with
  | some (some (.im d)) => .ok (.im d)
  | some (some (.own c)) => .ok (.bor c)
  | some (some (.bor c)) => .ok (.bor c)
  | some (some (.chg c)) => .ok (.bor c)
  | _ => .bad
def mutS (ρ : Sv) (i : Nat) : R Sl := match ρ[i]? with
  | some (some (.own c)) => .ok (.chg c)
  | some (some (.chg c)) => .ok (.chg c)
  | _ => .bad
/-- a changed container back into its slot -/
def putBack (ρ : Sv) (i : Nat) (c : Ct) : Sv := match ρ[i]? with
  | some (some (.own _)) => ρ.set i (some (.own c))
  | some (some (.chg _)) => ρ.set i (some (.chg c))
  | _ => ρ
def putBacks (ρ : Sv) : List Nat → List Ct → Sv
  | i :: is, c :: cs => putBacks (putBack ρ i c) is cs
  | _, _ => ρ
/-- the slots that are handed over to be changed -/
def As.muts : As → List Nat
  | .nil => []
  | .e _ as => as.muts
  | .bor _ as => as.muts
  | .chg i as => i :: as.muts
def As.bors : As → List Nat
  | .nil => []
  | .e _ as => as.bors
  | .bor i as => i :: as.bors
  | .chg _ as => as.bors
/-- the arguments, from the values (in turn) and the slots as they stand behind all of them -/
def argSls (ρ : Sv) : As → List Sl → R (List Sl)
  | .nil, [] => .ok []
  | .e _ as, v :: vs => argE v >>= fun s => argSls ρ as vs >>= fun ss => .ok (s :: ss)
  | .bor i as, vs => borS ρ i >>= fun s => argSls ρ as vs >>= fun ss => .ok (s :: ss)
  | .chg i as, vs => mutS ρ i >>= fun s => argSls ρ as vs >>= fun ss => .ok (s :: ss)
  | _, _ => .bad

mutual
/-- a target's slots -/
def Pt.slots : Pt → List Nat
  | .v i => [i]
  | .t ps => Pt.slotss ps
def Pt.slotss : List Pt → List Nat
  | [] => []
  | p :: ps => p.slots ++ Pt.slotss ps
end
def Rdo.locks : Rdo → List Nat
  | .e _ => []
  | .s i => [i]
/-- the slots that are walked -/
def Sc.locks : Sc → List Nat
  | .it a => a.locks
  | .rng1 _ => []
  | .rng2 _ _ => []
  | .enum a => a.locks
  | .zip a b => a.locks ++ b.locks
def slD : D → Sl
  | .list xs => .own (.lst xs)
  | d => .im d

/-- what a call of a def gives: its value, what stands in the containers that it was handed to change -/
abbrev Calls := Nat → List Sl → R (Sl × List Ct)
/-- the calls a level deeper (a generator's) -/
def dnC (n : Calls) : Calls := fun i ss => n (i + 1000) ss
def isTrueD : D → Bool
  | .bool b => b
  | _ => false

mutual
def evE (n : Calls) : E → Sv → R (Sl × Sv)
  | .lit d, ρ => .ok (.im d, ρ)
  | .var i, ρ => varS ρ i
  | .mov i, ρ => movS ρ i
  | .glb _ d, ρ => .ok (.im d, ρ)
  | .tup as, ρ => evEs n as ρ >>= fun r => .ok (.im (.tuple r.1), r.2)
  | .lst as, ρ => evEs n as ρ >>= fun r => .ok (.own (.lst r.1), r.2)
  | .bin op a b, ρ => datR (evE n a ρ) >>= fun r => datR (evE n b r.2) >>= fun r2 => binD op r.1 r2.1 >>= fun d => .ok (slD d, r2.2)
  | .neg a, ρ => datR (evE n a ρ) >>= fun r => match r.1 with
    | .int i => .ok (.im (.int (-i)), r.2)
    | _ => .bad
  | .cmp op a b, ρ => datR (evE n a ρ) >>= fun r => datR (evE n b r.2) >>= fun r2 => cmpD op r.1 r2.1 >>= fun c => .ok (.im (.bool c), r2.2)
  | .isn ng a, ρ => datR (evE n a ρ) >>= fun r => .ok (.im (.bool (ng.xor (isNone r.1))), r.2)
  | .mem ng a b, ρ => datR (evE n a ρ) >>= fun r => evR n b r.2 >>= fun r2 => memD r.1 r2.1 >>= fun c => .ok (.im (.bool (ng.xor c)), r2.2)
  | .and a b, ρ => datR (evE n a ρ) >>= fun r => truthD r.1 >>= fun c => if c = true then evE n b r.2 else .ok (.im r.1, r.2)
  | .or a b, ρ => datR (evE n a ρ) >>= fun r => truthD r.1 >>= fun c => if c = true then .ok (.im r.1, r.2) else evE n b r.2
  | .not a, ρ => evT n a ρ >>= fun r => .ok (.im (.bool (!r.1)), r.2)
  | .ite c a b, ρ => evT n c ρ >>= fun r => if r.1 = true then evE n a r.2 else evE n b r.2
  | .idx (.e a) i, ρ => evE n a ρ >>= fun ra => datR (evE n i ra.2) >>= fun ri => idxD ra.1.cn ri.1 >>= fun d => .ok (.im d, ri.2)
  | .idx (.s j) i, ρ => slotC ρ j >>= fun _ => datR (evE n i ρ) >>= fun ri => slotC ri.2 j >>= fun c => idxD c ri.1 >>= fun d => .ok (.im d, ri.2)
  | .slc (.e a) lo hi, ρ => evE n a ρ >>= fun ra => evO n lo ra.2 >>= fun rl => evO n hi rl.2 >>= fun rh => sliceC ra.1.cn rl.1 rh.1 >>= fun s => .ok (s, rh.2)
  | .slc (.s j) lo hi, ρ => slotC ρ j >>= fun _ => evO n lo ρ >>= fun rl => evO n hi rl.2 >>= fun rh => slotC rh.2 j >>= fun c => sliceC c rl.1 rh.1 >>= fun s => .ok (s, rh.2)
  | .len a, ρ => evR n a ρ >>= fun r => lenC r.1 >>= fun d => .ok (.im d, r.2)
  | .cv k a, ρ => evR n a ρ >>= fun r => cvC k r.1 >>= fun s => .ok (s, r.2)
  | .isi a t, ρ => evR n a ρ >>= fun r => isiC t r.1 >>= fun b => .ok (.im (.bool b), r.2)
  | .get (.e a) k, ρ => evE n a ρ >>= fun ra => guardR (isDctC ra.1.cn) (datR (evE n k ra.2) >>= fun rk => getD1 ra.1.cn rk.1 >>= fun d => .ok (.im d, rk.2))
  | .get (.s j) k, ρ => slotC ρ j >>= fun c0 => guardR (isDctC c0) (datR (evE n k ρ) >>= fun rk => slotC rk.2 j >>= fun c => getD1 c rk.1 >>= fun d => .ok (.im d, rk.2))
  | .get2 (.e a) k d, ρ => evE n a ρ >>= fun ra => guardR (isDctC ra.1.cn) (datR (evE n k ra.2) >>= fun rk => datR (evE n d rk.2) >>= fun rd => getD2 ra.1.cn rk.1 rd.1 >>= fun d => .ok (.im d, rd.2))
  | .get2 (.s j) k d, ρ => slotC ρ j >>= fun c0 => guardR (isDctC c0) (datR (evE n k ρ) >>= fun rk => datR (evE n d rk.2) >>= fun rd => slotC rd.2 j >>= fun c => getD2 c rk.1 rd.1 >>= fun d => .ok (.im d, rd.2))
  | .call f as, ρ => evAs n as ρ >>= fun r => argSls r.2 as r.1 >>= fun ss => guardR (decide as.muts.Nodup && as.bors.all fun i => !as.muts.contains i) (match n f ss with
    | .ok o => .ok (o.1, putBacks r.2 as.muts o.2)
    | .exc x _ => guardR as.muts.isEmpty (.exc x r.2)
    | .bad => .bad)
  | .lc elt p s c own, ρ => evSc n s ρ >>= fun r => (loopC p (evC n c) (fun ρ => datR (evE n elt ρ)) own r.1 (wipeS (lockS r.2 s.locks) own)).nox >>= fun q =>
      guardR (decide (q.1.length ≤ lineN)) (.ok (.own (.lst q.1), unlock (backS q.2 (lockS r.2 s.locks) own) r.2 s.locks))
  | .lc2 elt p s c p2 s2 c2 own, ρ => evSc n s ρ >>= fun r => (loopCC p (evC n c) (fun ρ => srcN s2 (evSc n s2 ρ) ρ >>= fun r2 =>
        loopC p2 (evC n c2) (fun ρ => datR (evE n elt ρ)) p2.slots r2.1 (wipeS (lockS r2.2 s2.locks) p2.slots) >>= fun q => .ok (q.1, unlock (backS q.2 (lockS r2.2 s2.locks) p2.slots) r2.2 s2.locks)) own r.1 (wipeS (lockS r.2 s.locks) own)).nox >>= fun q =>
      guardR (decide (q.1.length ≤ lineN)) (.ok (.own (.lst q.1), unlock (backS q.2 (lockS r.2 s.locks) own) r.2 s.locks))
  | .gen k elt p s c own, ρ => srcN s (evSc n s ρ) ρ >>= fun r => match k with
    | .tup => (loopC p (evC (dnC n) c) (fun ρ => datR (evE (dnC n) elt ρ)) own r.1 (wipeS (lockS r.2 s.locks) own)).nox >>= fun q => guardR (decide (q.1.length ≤ lineN)) (.ok (.im (.tuple q.1), unlock (backS q.2 (lockS r.2 s.locks) own) r.2 s.locks))
    | .any => (loopAny true p (evC (dnC n) c) (fun ρ => datR (evE (dnC n) elt ρ) >>= fun r => .ok (isTrueD r.1, r.2)) own r.1 (wipeS (lockS r.2 s.locks) own)).nox >>= fun q => .ok (.im (.bool q.1), unlock (backS q.2 (lockS r.2 s.locks) own) r.2 s.locks)
    | .all => (loopAny false p (evC (dnC n) c) (fun ρ => datR (evE (dnC n) elt ρ) >>= fun r => .ok (isTrueD r.1, r.2)) own r.1 (wipeS (lockS r.2 s.locks) own)).nox >>= fun q => .ok (.im (.bool q.1), unlock (backS q.2 (lockS r.2 s.locks) own) r.2 s.locks)
    | .srt => (loopC p (evC (dnC n) c) (fun ρ => datR (evE (dnC n) elt ρ)) own r.1 (wipeS (lockS r.2 s.locks) own)).nox >>= fun q => guardR (decide (q.1.length ≤ lineN)) (sortC (.dat (.list q.1)) >>= fun ys => .ok (.own (.lst ys), unlock (backS q.2 (lockS r.2 s.locks) own) r.2 s.locks))
    | .sum => .bad
  | .dc ek ev p s c own, ρ => srcN s (evSc n s ρ) ρ >>= fun r => (loopD p (evC n c) (fun ρ => datR (evE n ek ρ) >>= fun rk => datR (evE n ev rk.2) >>= fun rv => .ok ((rk.1, rv.1), rv.2)) own r.1 [] (wipeS (lockS r.2 s.locks) own)).nox >>= fun q =>
      guardR (decide (r.1.length ≤ lineN)) (.ok (.own (.dct q.1), unlock (backS q.2 (lockS r.2 s.locks) own) r.2 s.locks))
  | .dsp0, ρ => .ok (.own (.dct []), ρ)
  | .pop i, ρ => match ρ[i]? with
    | some (some (.own (.lst xs))) => match xs.getLast? with
      | some d => .ok (.im d, ρ.set i (some (.own (.lst xs.dropLast))))
      | none => .bad
    | _ => .bad
/-- .. as a test -/
def evT (n : Calls) : E → Sv → R (Bool × Sv)
  | .var i, ρ => slotC ρ i >>= fun c => truthC c >>= fun b => .ok (b, ρ)
  | .and a b, ρ => evT n a ρ >>= fun r => if r.1 = true then evT n b r.2 else .ok (false, r.2)
  | .or a b, ρ => evT n a ρ >>= fun r => if r.1 = true then .ok (true, r.2) else evT n b r.2
  | .not a, ρ => evT n a ρ >>= fun r => .ok (!r.1, r.2)
  | .ite c a b, ρ => evT n c ρ >>= fun r => if r.1 = true then evT n a r.2 else evT n b r.2
  | a, ρ => evE n a ρ >>= fun r => truthC r.1.cn >>= fun c => .ok (c, r.2)
def evEs (n : Calls) : Es → Sv → R (List D × Sv)
  | .nil, ρ => .ok ([], ρ)
  | .cons a as, ρ => datR (evE n a ρ) >>= fun r => evEs n as r.2 >>= fun rs => .ok (r.1 :: rs.1, rs.2)
def evAs (n : Calls) : As → Sv → R (List Sl × Sv)
  | .nil, ρ => .ok ([], ρ)
  | .e a as, ρ => evE n a ρ >>= fun r => evAs n as r.2 >>= fun rs => .ok (r.1 :: rs.1, rs.2)
  | .bor i as, ρ => slotC ρ i >>= fun _ => evAs n as ρ
  | .chg i as, ρ => slotC ρ i >>= fun _ => evAs n as ρ
/-- a slice's end -/
def evO (n : Calls) : Eo → Sv → R (Option Int × Sv)
  | .no, ρ => .ok (none, ρ)
  | .so a, ρ => datR (evE n a ρ) >>= fun r => match r.1 with
    | .int i => .ok (some i, r.2)
    | _ => .bad
/-- a comprehension's test -/
def evC (n : Calls) : Eo → Sv → R (Bool × Sv)
  | .no, ρ => .ok (true, ρ)
  | .so a, ρ => evT n a ρ
def evR (n : Calls) : Rdo → Sv → R (Cn × Sv)
  | .e a, ρ => evE n a ρ >>= fun r => .ok (r.1.cn, r.2)
  | .s i, ρ => slotC ρ i >>= fun c => .ok (c, ρ)
/-- the items of what is walked -/
def evSc (n : Calls) : Sc → Sv → R (List D × Sv)
  | .it (.e a), ρ => evE n a ρ >>= fun r => itemsE r.1.cn >>= fun xs => .ok (xs, r.2)
  | .it (.s i), ρ => slotC ρ i >>= fun c => itemsS ρ i c >>= fun xs => .ok (xs, ρ)
  | .rng1 a, ρ => datR (evE n a ρ) >>= fun r => match r.1 with
    | .int i => guardR (range62 i) (.ok (rangeD 0 i.toNat, r.2))
    | _ => .bad
  | .rng2 a b, ρ => datR (evE n a ρ) >>= fun r => datR (evE n b r.2) >>= fun r2 => match r.1, r2.1 with
    | .int i, .int j => guardR (range62 i && range62 j) (.ok (rangeD i (j - i).toNat, r2.2))
    | _, _ => .bad
  | .enum _, _ => .bad
  | .zip _ _, _ => .bad
end

/-! ### statements -/
inductive Out where
  | nx (ρ : Sv)
  | ret (s : Sl) (ρ : Sv)
  | brk (ρ : Sv)
  | cnt (ρ : Sv)
  | exc (x : Ex) (ρ : Sv)
  | bad
def R.out {α : Type} (m : R α) (f : α → Out) : Out := match m with
  | .ok a => f a
  | .exc x ρ => .exc x ρ
  | .bad => .bad
@[simp] theorem R.ok_out {α : Type} (a : α) (f : α → Out) : (R.ok a).out f = f a := rfl
@[simp] theorem R.exc_out {α : Type} (x : Ex) (ρ : Sv) (f : α → Out) : (R.exc x ρ : R α).out f = .exc x ρ := rfl
@[simp] theorem R.bad_out {α : Type} (f : α → Out) : (R.bad : R α).out f = .bad := rfl
def Out.bind (o : Out) (f : Sv → Out) : Out := match o with
  | .nx ρ => f ρ
  | o => o
def loopW (c : Sv → R (Bool × Sv)) (b : Sv → Out) : Nat → Sv → Out
  | 0, _ => .bad
  | k + 1, ρ => (c ρ).out fun r => if r.1 = true then (match b r.2 with
    | .nx ρ2 => loopW c b k ρ2
    | .cnt ρ2 => loopW c b k ρ2
    | .brk ρ2 => .nx ρ2
    | o => o) else .nx r.2
def loopF (p : Pt) (b : Sv → Out) : List D → Sv → Out
  | [], ρ => .nx ρ
  | x :: xs, ρ => (bindP p (.im x) ρ).out fun ρ1 => match b ρ1 with
    | .nx ρ2 => loopF p b xs ρ2
    | .cnt ρ2 => loopF p b xs ρ2
    | .brk ρ2 => .nx ρ2
    | o => o
/-- what follows a loop: the walked slots are one's own again -/
def Out.unlock (ρ0 : Sv) (is : List Nat) : Out → Out
  | .nx ρ => .nx (Wk.unlock ρ ρ0 is)
  | .ret s ρ => .ret s (Wk.unlock ρ ρ0 is)
  | .exc x ρ => .exc x (Wk.unlock ρ ρ0 is)
  | o => o
def appC (d : D) : Sl → R Sl
  | .own (.lst xs) => guardR (decide (xs.length < lineN)) (.ok (.own (.lst (xs ++ [d]))))
  | .chg (.lst xs) => guardR (decide (xs.length < lineN)) (.ok (.chg (.lst (xs ++ [d]))))
  | _ => .bad
def setL (xs : List D) (k d : D) : R (List D) := match k with
  | .int i => match L2.ixN xs.length i with
    | some j => .ok (xs.set j d)
    | none => .bad
  | _ => .bad
def setC (k d : D) : Sl → R Sl
  | .own (.lst xs) => setL xs k d >>= fun ys => .ok (.own (.lst ys))
  | .chg (.lst xs) => setL xs k d >>= fun ys => .ok (.chg (.lst ys))
  | .own (.dct kvs) => guardR (isKey k && decide (kvs.length < lineN)) (.ok (.own (.dct (putD k d kvs))))
  | .chg (.dct kvs) => guardR (isKey k && decide (kvs.length < lineN)) (.ok (.chg (.dct (putD k d kvs))))
  | _ => .bad
def extC (ys : List D) : Sl → R Sl
  | .own (.lst xs) => guardR (decide (xs.length + ys.length < lineN)) (.ok (.own (.lst (xs ++ ys))))
  | .chg (.lst xs) => guardR (decide (xs.length + ys.length < lineN)) (.ok (.chg (.lst (xs ++ ys))))
  | _ => .bad

def isListC : Cn → Bool
  | .dat (.list _) => true
  | _ => false
def augD : Bop → Cn → D → R D
  | .add, .dat (.int i), .int j => .ok (.int (i + j))
  | .sub, .dat (.int i), .int j => .ok (.int (i - j))
  | _, _, _ => .bad
/-- what a for statement walks -/
def evScN (n : Calls) (s : Sc) (ρ : Sv) : R (List D × Sv) := srcN s (evSc n s ρ) ρ
mutual
def evS (n : Calls) (fu : Nat) : S → Sv → Out
  | .asg p a, ρ => (evE n a ρ).out fun r => (bindP p r.1 r.2).out .nx
  | .aug i op a, ρ => (slotC ρ i).out fun c => (datR (evE n a ρ)).out fun r => (augD op c r.1).out fun d => .nx (setS r.2 i (.im d))
  | .app i a, ρ => (slotC ρ i).out fun c0 => (guardR (isListC c0) (datR (evE n a ρ))).out fun r => (getS r.2 i).out fun s => (appC r.1 s).out fun s => .nx (setS r.2 i s)
  | .ext i a, ρ => .bad
  | .sti i k a, ρ => (datR (evE n a ρ)).out fun r => (slotC r.2 i).out fun _ => (datR (evE n k r.2)).out fun rk => (getS rk.2 i).out fun s => (setC rk.1 r.1 s).out fun s => .nx (setS rk.2 i s)
  | .ex a, ρ => (evE n a ρ).out fun r => .nx r.2
  | .iff c t e, ρ => (evT n c ρ).out fun r => if r.1 = true then evSs n fu t r.2 else evSs n fu e r.2
  | .whl c b, ρ => loopW (evT n c) (evSs n fu b) fu ρ
  | .for p s b, ρ => (evScN n s ρ).out fun r => (loopF p (evSs n fu b) r.1 (lockS r.2 s.locks)).unlock r.2 s.locks
  | .ret a, ρ => (evE n a ρ).out fun r => .ret r.1 r.2
  | .ret0, ρ => .ret (.im .none) ρ
  | .brk, ρ => .brk ρ
  | .cnt, ρ => .cnt ρ
  | .pas, ρ => .nx ρ
def evSs (n : Calls) (fu : Nat) : Ss → Sv → Out
  | .nil, ρ => .nx ρ
  | .cons s ss, ρ => (evS n fu s ρ).bind (evSs n fu ss)
end

/-! ### defs -/
structure Fd where
  np : Nat
  nN : Nat
  body : Ss
/-- what stands in the containers that were handed over to be changed -/
def finals (ρ : Sv) : Nat → List Sl → R (List Ct)
  | _, [] => .ok []
  | i, .chg _ :: ss => match ρ[i]? with
    | some (some (.chg c)) => finals ρ (i + 1) ss >>= fun cs => .ok (c :: cs)
    | _ => .bad
  | i, _ :: ss => finals ρ (i + 1) ss
def outCall (ss : List Sl) : Out → R (Sl × List Ct)
  | .ret s ρ => finals ρ 0 ss >>= fun cs => .ok (s, cs)
  | .nx ρ => finals ρ 0 ss >>= fun cs => .ok (.im .none, cs)
  | .exc x _ => .exc x []
  | _ => .bad
def startS (d : Fd) (ss : List Sl) : Sv := ss.map some ++ List.replicate (d.nN - d.np) none
def callN (fds : List Fd) (fu : Nat) : Nat → Calls
  | 0, _, _ => .bad
  | k + 1, f, ss => match fds[f]? with
    | some d => guardR (decide (ss.length = d.np)) (outCall ss (evSs (callN fds fu k) fu d.body (startS d ss)))
    | none => if 1000 ≤ f then callN fds fu k (f - 1000) ss else .bad
theorem dnC_zero (fds : List Fd) (fu : Nat) : dnC (callN fds fu 0) = callN fds fu 0 := rfl
theorem dnC_succ {fds : List Fd} {fu k : Nat} (h : fds.length ≤ 1000) : dnC (callN fds fu (k + 1)) = callN fds fu k := by
  funext i ss
  show callN fds fu (k + 1) (i + 1000) ss = _
  unfold callN
  rw [List.getElem?_eq_none (by omega)]
  rw [if_pos (by omega), Nat.add_sub_cancel]
  cases k <;> rfl
end Wk

set_option Elab.async false
set_option linter.all false
set_option maxRecDepth 100000
set_option maxHeartbeats 4000000
/-! what a value stands for in a heap; what a state stands for -/
namespace Wk
open PySem PySem.Spec PyProof.Rows L2

def SOk (x : Str) : Prop := PyData.strOk x = true ∧ x.length ≤ sizeLine
/-- a list that is not changed any more -/
def FzL (K : PySem.W.Frag) (H : Hp) (a : Addr) (xs : List V) : Prop :=
  (∃ o, H a = some (.frz o (.lst xs))) ∨
    ∃ (o : Obj) (its : Array Value) (n : Nat), K.lookup a = some o ∧ o.cls = .type "list" ∧ o.dict = none ∧ o.data = .seq its n ∧ its.size ≤ sizeLine ∧ Vals xs its.toList
theorem FzL.sq {K : PySem.W.Frag} {H : Hp} {a : Addr} {xs : List V} (h : FzL K H a xs) : SqL K H a xs := by
  rcases h with h | h
  · exact .inl (.inr h)
  · exact .inr h
mutual
inductive Dn (K : PySem.W.Frag) (H : Hp) : V → D → Prop
  | non : Dn K H .non .none
  | bl (b : Bool) : Dn K H (.bl b) (.bool b)
  | int (i : Int) : Dn K H (.int i) (.int i)
  | str (x : Str) (h : SOk x) : Dn K H (.str x) (.str x)
  | lst {a : Addr} {xs : List V} {ds : List D} : FzL K H a xs → DnAll K H xs ds → Dn K H (.ref a) (.list ds)
  | tup {a : Addr} {xs : List V} {ds : List D} : SqT K H a xs → DnAll K H xs ds → Dn K H (.ref a) (.tuple ds)
inductive DnAll (K : PySem.W.Frag) (H : Hp) : List V → List D → Prop
  | nil : DnAll K H [] []
  | cons {v : V} {vs : List V} {d : D} {ds : List D} : Dn K H v d → DnAll K H vs ds → DnAll K H (v :: vs) (d :: ds)
end
section
variable {K : PySem.W.Frag} {H H' H1 H2 : Hp}
theorem DnAll.length : ∀ {vs : List V} {ds : List D}, DnAll K H vs ds → vs.length = ds.length
  | _, _, .nil => rfl
  | _, _, .cons _ t => congrArg (· + 1) t.length
theorem DnAll.append : ∀ {vs ws : List V} {ds es : List D}, DnAll K H vs ds → DnAll K H ws es → DnAll K H (vs ++ ws) (ds ++ es)
  | _, _, _, _, .nil, q => q
  | _, _, _, _, .cons h t, q => .cons h (t.append q)
theorem DnAll.get : ∀ {vs : List V} {ds : List D} {i : Nat} {d : D}, DnAll K H vs ds → ds[i]? = some d → ∃ v, vs[i]? = some v ∧ Dn K H v d
  | _, _, i, _, .nil, e => by simp at e
  | _, _, 0, _, .cons h _, e => by
    have e' := Option.some.inj e
    subst e'
    exact ⟨_, rfl, h⟩
  | _, _, i + 1, _, .cons _ t, e => t.get (i := i) e
theorem DnAll.getV : ∀ {vs : List V} {ds : List D} {i : Nat} {v : V}, DnAll K H vs ds → vs[i]? = some v → ∃ d, ds[i]? = some d ∧ Dn K H v d
  | _, _, i, _, .nil, e => by simp at e
  | _, _, 0, _, .cons h _, e => by
    have e' := Option.some.inj e
    subst e'
    exact ⟨_, rfl, h⟩
  | _, _, i + 1, _, .cons _ t, e => t.getV (i := i) e
theorem DnAll.set : ∀ {vs : List V} {ds : List D} (i : Nat) {v : V} {d : D}, DnAll K H vs ds → Dn K H v d → DnAll K H (vs.set i v) (ds.set i d)
  | _, _, _, _, _, .nil, _ => .nil
  | _, _, 0, _, _, .cons _ t, q => .cons q t
  | _, _, i + 1, _, _, .cons h t, q => .cons h (t.set i q)
theorem DnAll.take : ∀ {vs : List V} {ds : List D} (n : Nat), DnAll K H vs ds → DnAll K H (vs.take n) (ds.take n)
  | _, _, 0, _ => .nil
  | _, _, _ + 1, .nil => .nil
  | _, _, n + 1, .cons h t => .cons h (t.take n)
theorem DnAll.drop : ∀ {vs : List V} {ds : List D} (n : Nat), DnAll K H vs ds → DnAll K H (vs.drop n) (ds.drop n)
  | _, _, 0, r => r
  | _, _, _ + 1, .nil => .nil
  | _, _, n + 1, .cons _ t => t.drop n
theorem DnAll.cut {vs : List V} {ds : List D} (h : DnAll K H vs ds) (lo hi : Option Int) : DnAll K H (cutV vs lo hi) (cutD ds lo hi) := by
  unfold cutV cutD
  rw [h.length]
  exact (h.drop _).take _
theorem DnAll.replicate {vs : List V} {ds : List D} (h : DnAll K H vs ds) : ∀ n : Nat, DnAll K H (List.replicate n vs).flatten (List.replicate n ds).flatten
  | 0 => .nil
  | n + 1 => by
    rw [List.replicate_succ, List.replicate_succ, List.flatten_cons, List.flatten_cons]
    exact h.append (h.replicate n)

/-! ### what stays -/
/-- what can't be changed -/
def Still (H H' : Hp) : Prop := (∀ a xs, H a = some (.tup xs) → H' a = some (.tup xs)) ∧ ∀ a o u, (∀ kvs, u ≠ .dK kvs) → H a = some (.frz o u) → H' a = some (.frz o u)
theorem Still.refl (H : Hp) : Still H H := ⟨fun _ _ h => h, fun _ _ _ _ h => h⟩
theorem Still.trans (a : Still H H1) (b : Still H1 H2) : Still H H2 := ⟨fun c xs h => b.1 c xs (a.1 c xs h), fun c o u n h => b.2 c o u n (a.2 c o u n h)⟩
theorem Still.of_same (h : Same H H') : Still H H' := ⟨fun a xs e => h a _ e, fun a o u _ e => h a _ e⟩
theorem Still.sqt (s : Still H H') {a : Addr} {xs : List V} (h : SqT K H a xs) : SqT K H' a xs := by
  rcases h with (h | ⟨o, h⟩) | h
  · exact .inl (.inl (s.1 _ _ h))
  · exact .inl (.inr ⟨o, s.2 _ _ _ (fun _ z => by cases z) h⟩)
  · exact .inr h
theorem Still.fzl (s : Still H H') {a : Addr} {xs : List V} (h : FzL K H a xs) : FzL K H' a xs := by
  rcases h with ⟨o, h⟩ | h
  · exact .inl ⟨o, s.2 _ _ _ (fun _ z => by cases z) h⟩
  · exact .inr h
mutual
theorem Dn.still (s : Still H H') : ∀ {v : V} {d : D}, Dn K H v d → Dn K H' v d
  | _, _, .non => .non
  | _, _, .bl b => .bl b
  | _, _, .int i => .int i
  | _, _, .str x h => .str x h
  | _, _, .lst h q => .lst (s.fzl h) (q.still s)
  | _, _, .tup h q => .tup (s.sqt h) (q.still s)
theorem DnAll.still (s : Still H H') : ∀ {vs : List V} {ds : List D}, DnAll K H vs ds → DnAll K H' vs ds
  | _, _, .nil => .nil
  | _, _, .cons h t => .cons (h.still s) (t.still s)
end
mutual
theorem Dn.dp : ∀ {v : V} {d : D}, Dn K H v d → Dp K H v d
  | _, _, .non => .non
  | _, _, .bl b => .bl b
  | _, _, .int i => .int i
  | _, _, .str x _ => .str x
  | _, _, .lst h q => .lst h.sq q.dp
  | _, _, .tup h q => .tup h q.dp
theorem DnAll.dp : ∀ {vs : List V} {ds : List D}, DnAll K H vs ds → DpAll K H vs ds
  | _, _, .nil => .nil
  | _, _, .cons h t => .cons h.dp t.dp
end
mutual
theorem Dn.lay : ∀ {v : V} {d : D}, Dn K H v d → d.canLay0 = true
  | _, _, .non => by simp only [PyData.canLay0]
  | _, _, .bl b => by simp only [PyData.canLay0]
  | _, _, .int i => by simp only [PyData.canLay0]
  | _, _, .str x h => by simp only [PyData.canLay0]; exact h.1
  | _, _, .lst _ q => by simp only [PyData.canLay0]; exact q.lay
  | _, _, .tup _ q => by simp only [PyData.canLay0]; exact q.lay
theorem DnAll.lay : ∀ {vs : List V} {ds : List D}, DnAll K H vs ds → PyData.canLayAll0 ds = true
  | _, _, .nil => by simp only [PyData.canLayAll0]
  | _, _, .cons h t => by simp only [PyData.canLayAll0, h.lay, t.lay, Bool.and_self]
end
/-- what is read: a list may be one that is changed later -/
inductive Dr (K : PySem.W.Frag) (H : Hp) : V → D → Prop
  | n {v : V} {d : D} : Dn K H v d → Dr K H v d
  | l {a : Addr} {xs : List V} {ds : List D} : SqL K H a xs → DnAll K H xs ds → Dr K H (.ref a) (.list ds)
theorem Dr.dp {v : V} {d : D} (h : Dr K H v d) : Dp K H v d := by
  cases h with
  | n h => exact h.dp
  | l h q => exact .lst h q.dp
theorem Dr.lay {v : V} {d : D} (h : Dr K H v d) : d.canLay0 = true := by
  cases h with
  | n h => exact h.lay
  | l h q => simp only [PyData.canLay0]; exact q.lay
theorem Dr.list {v : V} {ds : List D} (h : Dr K H v (.list ds)) : ∃ a xs, v = .ref a ∧ SqL K H a xs ∧ DnAll K H xs ds := by
  cases h with
  | n h => cases h with
    | lst h q => exact ⟨_, _, rfl, h.sq, q⟩
  | l h q => exact ⟨_, _, rfl, h, q⟩
theorem Dn.list {v : V} {ds : List D} (h : Dn K H v (.list ds)) : ∃ a xs, v = .ref a ∧ FzL K H a xs ∧ DnAll K H xs ds := by
  cases h with
  | lst h q => exact ⟨_, _, rfl, h, q⟩
theorem Dn.tuple {v : V} {ds : List D} (h : Dn K H v (.tuple ds)) : ∃ a xs, v = .ref a ∧ SqT K H a xs ∧ DnAll K H xs ds := by
  cases h with
  | tup h q => exact ⟨_, _, rfl, h, q⟩
theorem Dr.tuple {v : V} {ds : List D} (h : Dr K H v (.tuple ds)) : ∃ a xs, v = .ref a ∧ SqT K H a xs ∧ DnAll K H xs ds := by
  cases h with
  | n h => exact h.tuple
theorem Dn.int_eq {v : V} {i : Int} (h : Dn K H v (.int i)) : v = .int i := by cases h; rfl
theorem Dr.int_eq {v : V} {i : Int} (h : Dr K H v (.int i)) : v = .int i := by
  cases h with
  | n h => exact h.int_eq
theorem Dn.str_eq {v : V} {x : Str} (h : Dn K H v (.str x)) : v = .str x ∧ SOk x := by cases h; exact ⟨rfl, by assumption⟩
theorem Dr.str_eq {v : V} {x : Str} (h : Dr K H v (.str x)) : v = .str x ∧ SOk x := by
  cases h with
  | n h => exact h.str_eq
theorem Dn.bool_eq {v : V} {b : Bool} (h : Dn K H v (.bool b)) : v = .bl b := by cases h; rfl
theorem Dn.none_eq {v : V} (h : Dn K H v .none) : v = .non := by cases h; rfl
theorem Dn.isNone {v : V} {d : D} (h : Dn K H v d) : decide (v = .non) = isNone d := by
  cases h <;> rfl

/-! ### containers -/
/-- a dict's pairs -/
inductive KvAll (K : PySem.W.Frag) (H : Hp) : List (Key × V) → List (D × D) → Prop
  | nil : KvAll K H [] []
  | cons {k : Key} {v : V} {r : List (Key × V)} {a b : D} {s : List (D × D)} : Dn K H (kV k) a → Dn K H v b → KvAll K H r s → KvAll K H ((k, v) :: r) ((a, b) :: s)
theorem KvAll.still (s : Still H H') : ∀ {xs : List (Key × V)} {ds : List (D × D)}, KvAll K H xs ds → KvAll K H' xs ds
  | _, _, .nil => .nil
  | _, _, .cons h1 h2 t => .cons (h1.still s) (h2.still s) (t.still s)
theorem KvAll.length : ∀ {xs : List (Key × V)} {ds : List (D × D)}, KvAll K H xs ds → xs.length = ds.length
  | _, _, .nil => rfl
  | _, _, .cons _ _ t => congrArg (· + 1) t.length
/-- a set of ints: its members in some order, each once -/
def SetIs (S : Int → Bool) (n : Nat) (xs : List D) : Prop := ∃ is : List Int, xs = is.map PyData.int ∧ is.Nodup ∧ n = is.length ∧ ∀ i, S i = true ↔ i ∈ is
/-- the container at a, as it may be changed -/
def CtAt (K : PySem.W.Frag) (H : Hp) (a : Addr) : Ct → Prop
  | .lst ds => ∃ xs, H a = some (.lst xs) ∧ DnAll K H xs ds
  | .dct kvs => ∃ xs, H a = some (.dK xs) ∧ KvAll K H xs kvs
  | .set ds => ∃ S n, H a = some (.set S n) ∧ SetIs S n ds
/-- .. as it is read -/
def CtRd (K : PySem.W.Frag) (H : Hp) (a : Addr) : Ct → Prop
  | .lst ds => ∃ xs, Rd H a (.lst xs) ∧ DnAll K H xs ds
  | .dct kvs => ∃ xs, Rd H a (.dK xs) ∧ KvAll K H xs kvs
  | .set ds => ∃ S n, Rd H a (.set S n) ∧ SetIs S n ds
theorem CtAt.rd {a : Addr} {c : Ct} (h : CtAt K H a c) : CtRd K H a c := by
  cases c with
  | lst ds => obtain ⟨xs, h1, h2⟩ := h; exact ⟨xs, .of h1, h2⟩
  | dct kvs => obtain ⟨xs, h1, h2⟩ := h; exact ⟨xs, .of h1, h2⟩
  | set ds => obtain ⟨S, n, h1, h2⟩ := h; exact ⟨S, n, .of h1, h2⟩
theorem CtAt.there {a : Addr} {c : Ct} (h : CtAt K H a c) : H a ≠ none := by
  cases c with
  | lst ds => obtain ⟨xs, h1, h2⟩ := h; rw [h1]; exact fun z => by cases z
  | dct kvs => obtain ⟨xs, h1, h2⟩ := h; rw [h1]; exact fun z => by cases z
  | set ds => obtain ⟨S, n, h1, h2⟩ := h; rw [h1]; exact fun z => by cases z
theorem CtRd.there {a : Addr} {c : Ct} (h : CtRd K H a c) : H a ≠ none := by
  cases c with
  | lst ds => obtain ⟨xs, h1 | ⟨o, h1⟩, h2⟩ := h <;> rw [h1] <;> exact fun z => by cases z
  | dct kvs => obtain ⟨xs, h1 | ⟨o, h1⟩, h2⟩ := h <;> rw [h1] <;> exact fun z => by cases z
  | set ds => obtain ⟨S, n, h1 | ⟨o, h1⟩, h2⟩ := h <;> rw [h1] <;> exact fun z => by cases z
theorem CtAt.keep {a : Addr} {c : Ct} (h : CtAt K H a c) (s : Still H H') (e : ∀ o, H a = some o → (∀ ps, o ≠ .tbl ps) → H' a = some o) : CtAt K H' a c := by
  cases c with
  | lst ds => obtain ⟨xs, h1, h2⟩ := h; exact ⟨xs, e _ h1 (fun ps z => by cases z), h2.still s⟩
  | dct kvs => obtain ⟨xs, h1, h2⟩ := h; exact ⟨xs, e _ h1 (fun ps z => by cases z), h2.still s⟩
  | set ds => obtain ⟨S, n, h1, h2⟩ := h; exact ⟨S, n, e _ h1 (fun ps z => by cases z), h2⟩
theorem rd_keep {a : Addr} {u : HO} (h : Rd H a u) (e : ∀ o, H a = some o → (∀ ps, o ≠ .tbl ps) → H' a = some o) (hu : ∀ ps, u ≠ .tbl ps) : Rd H' a u := by
  rcases h with h | ⟨o, h⟩
  · exact .inl (e _ h hu)
  · exact .inr ⟨o, e _ h fun ps z => by cases z⟩
theorem CtRd.keep {a : Addr} {c : Ct} (h : CtRd K H a c) (s : Still H H') (e : ∀ o, H a = some o → (∀ ps, o ≠ .tbl ps) → H' a = some o) : CtRd K H' a c := by
  cases c with
  | lst ds =>
    obtain ⟨xs, h1, h2⟩ := h
    exact ⟨xs, rd_keep h1 e (fun ps y => by cases y), h2.still s⟩
  | dct kvs => obtain ⟨xs, h1, h2⟩ := h; exact ⟨xs, rd_keep h1 e (fun ps y => by cases y), h2.still s⟩
  | set ds => obtain ⟨S, n, h1, h2⟩ := h; exact ⟨S, n, rd_keep h1 e (fun ps y => by cases y), h2⟩
/-- what a reading gives -/
def CnRd (K : PySem.W.Frag) (H : Hp) (v : V) : Cn → Prop
  | .dat d => Dr K H v d
  | .dct kvs => ∃ a xs, v = .ref a ∧ Rd H a (.dK xs) ∧ KvAll K H xs kvs
  | .set ds => ∃ a S n, v = .ref a ∧ Rd H a (.set S n) ∧ SetIs S n ds
theorem CtRd.cn {a : Addr} {c : Ct} (h : CtRd K H a c) : CnRd K H (.ref a) c.cn := by
  cases c with
  | lst ds => obtain ⟨xs, h1, h2⟩ := h; exact .l (.inl h1) h2
  | dct kvs => obtain ⟨xs, h1, h2⟩ := h; exact ⟨a, xs, rfl, h1, h2⟩
  | set ds => obtain ⟨S, n, h1, h2⟩ := h; exact ⟨a, S, n, rfl, h1, h2⟩
end

/-! ### tables of code objects -/
def TabsOk (T : List Addr) (H : Hp) : Prop := ∀ P ∈ T, ∃ ps : Array Value, H P = some (.tbl ps) ∧ TriplesOk ps.toList
/-- H' has all that H has, but at the places W; the tables may have grown -/
structure Ext (W : Addr → Prop) (H H' : Hp) : Prop where
  keep : ∀ a o, H a = some o → ¬ W a → (∀ ps, o ≠ .tbl ps) → H' a = some o
  tbl : ∀ a ps, H a = some (.tbl ps) → ∃ more, H' a = some (.tbl (ps ++ more))
  still : Still H H'
  dom : ∀ a, H a ≠ none → H' a ≠ none
section
variable {W W1 : Addr → Prop} {H H' H1 H2 : Hp}
theorem Ext.refl : Ext W H H := ⟨fun _ _ h _ _ => h, fun _ ps h => ⟨#[], by rw [h]; simp⟩, .refl H, fun _ h => h⟩
theorem Ext.of_same (h : Same H H') : Ext W H H' := ⟨fun a o e _ _ => h a o e, fun a ps e => ⟨#[], by rw [h a _ e]; simp⟩, .of_same h, fun a q z => by
  cases e : H a with
  | none => exact q e
  | some o => rw [h a o e] at z; cases z⟩
theorem Ext.trans (a : Ext W H H1) (b : Ext W1 H1 H2) (h : ∀ c, W1 c → W c ∨ H c = none) : Ext W H H2 where
  keep := fun c o e w t => b.keep c o (a.keep c o e w t) (fun z => (h c z).elim w fun y => by rw [e] at y; cases y) t
  tbl := fun c ps e => by
    obtain ⟨m1, e1⟩ := a.tbl c ps e
    obtain ⟨m2, e2⟩ := b.tbl c _ e1
    exact ⟨m1 ++ m2, by rw [e2, Array.append_assoc]⟩
  still := a.still.trans b.still
  dom := fun c q => b.dom c (a.dom c q)
theorem Ext.mono (a : Ext W H H1) (h : ∀ c, W c → W1 c ∨ H c = none) : Ext W1 H H1 := ⟨fun c o e w t => a.keep c o e (fun z => (h c z).elim w fun y => by rw [e] at y; cases y) t, a.tbl, a.still, a.dom⟩
end

/-! ### a state -/
/-- the entry of the def that runs: its heap, what it may change there; the tables -/
structure Gh where
  K : PySem.W.Frag
  T : List Addr
  H0 : Hp
  W0 : Addr → Prop
  /-- the exception classes by their numbers, with the names of their fields -/
  ec : Nat → Option (Addr × List Str)
def isOM : Option (Option Sl) → Bool
  | some (some (.own _)) => true
  | some (some (.chg _)) => true
  | _ => false
def isCt : Option (Option Sl) → Bool
  | some (some (.own _)) => true
  | some (some (.chg _)) => true
  | some (some (.bor _)) => true
  | _ => false
/-- the addresses of the containers that may be changed -/
def OA (σ : L2.St) (ρ : Sv) (a : Addr) : Prop := ∃ i : Nat, isOM ρ[i]? = true ∧ σ[i]? = some (some (V.ref a))
def SlOk (G : Gh) (H : Hp) (v : V) : Sl → Prop
  | .im d => Dn G.K H v d
  | .own c => ∃ a, v = .ref a ∧ CtAt G.K H a c ∧ G.H0 a = none
  | .chg c => ∃ a, v = .ref a ∧ CtAt G.K H a c ∧ G.W0 a
  | .bor c => ∃ a, v = .ref a ∧ CtRd G.K H a c
structure Rp (G : Gh) (H : Hp) (σ : L2.St) (ρ : Sv) : Prop where
  len : σ.length = ρ.length
  slot : ∀ (i : Nat) (s : Sl), ρ[i]? = some (some s) → ∃ v, σ[i]? = some (some v) ∧ SlOk G H v s
  sep : ∀ (i j : Nat) (a : Addr), i ≠ j → isOM ρ[i]? = true → isCt ρ[j]? = true → σ[i]? = some (some (V.ref a)) → σ[j]? ≠ some (some (V.ref a))
  ext : Ext G.W0 G.H0 H
  tabs : TabsOk G.T H
/-- what is borrowed later is so before -/
structure BC (ρ ρ' : Sv) : Prop where
  bor : ∀ (i : Nat) (c : Ct), ρ'[i]? = some (some (.bor c)) → ρ[i]? = some (some (.bor c))
  chg : ∀ (i : Nat) (c : Ct), ρ'[i]? = some (some (.chg c)) → ∃ c0, ρ[i]? = some (some (.chg c0))
theorem BC.refl (ρ : Sv) : BC ρ ρ := ⟨fun _ _ h => h, fun _ c h => ⟨c, h⟩⟩
theorem BC.trans {ρ ρ1 ρ2 : Sv} (a : BC ρ ρ1) (b : BC ρ1 ρ2) : BC ρ ρ2 := ⟨fun i c h => a.bor i c (b.bor i c h), fun i c h => let ⟨c0, h0⟩ := b.chg i c h; a.chg i c0 h0⟩
def isBC : Option Sl → Bool
  | some (.bor _) => true
  | some (.chg _) => true
  | _ => false
theorem get_set {ρ : Sv} {i j : Nat} {o : Option Sl} {p : Option Sl} (h : (ρ.set i o)[j]? = some p) : (j = i ∧ p = o ∧ i < ρ.length) ∨ (j ≠ i ∧ ρ[j]? = some p) := by
  by_cases e : i = j
  · subst e
    by_cases hi : i < ρ.length
    · rw [List.getElem?_set_self hi] at h; exact .inl ⟨rfl, (Option.some.inj h).symm, hi⟩
    · rw [List.getElem?_eq_none (by simpa using hi)] at h; cases h
  · rw [List.getElem?_set_ne e] at h; exact .inr ⟨fun z => e z.symm, h⟩
theorem BC.set {ρ ρ1 : Sv} (a : BC ρ ρ1) {i : Nat} {o : Option Sl} (h : isBC o = false) : BC ρ (ρ1.set i o) := by
  refine ⟨fun j c q => ?_, fun j c q => ?_⟩
  · rcases get_set q with ⟨_, e, _⟩ | ⟨_, e⟩
    · rw [← e] at h; cases h
    · exact a.bor j c e
  · rcases get_set q with ⟨_, e, _⟩ | ⟨_, e⟩
    · rw [← e] at h; cases h
    · exact a.chg j c e
/-- from a state to a later one of the same slots' values -/
structure Stp (G : Gh) (σ : L2.St) (ρ : Sv) (H : Hp) (ρ' : Sv) (H' : Hp) : Prop where
  rp : Rp G H' σ ρ'
  ext : Ext (OA σ ρ) H H'
  sub : ∀ i : Nat, isOM ρ'[i]? = true → isOM ρ[i]? = true
  bc : BC ρ ρ'
section
variable {G : Gh} {H H' H1 H2 : Hp} {σ : L2.St} {ρ ρ' ρ1 ρ2 : Sv}
theorem CnRd.keep {K : PySem.W.Frag} {v : V} {c : Cn} (h : CnRd K H v c) (s : Still H H') (e : ∀ a o, v = .ref a → H a = some o → (∀ ps, o ≠ .tbl ps) → H' a = some o) : CnRd K H' v c := by
  cases c with
  | dat d => cases h with
    | n h => exact .n (h.still s)
    | l h q =>
      refine .l ?_ (q.still s)
      rcases h with h | h
      · exact .inl (rd_keep h (fun o => e _ o rfl) fun ps y => by cases y)
      · exact .inr h
  | dct kvs => obtain ⟨a, xs, rfl, h1, h2⟩ := h; exact ⟨a, xs, rfl, rd_keep h1 (fun o => e _ o rfl) (fun ps y => by cases y), h2.still s⟩
  | set ds => obtain ⟨a, S, n, rfl, h1, h2⟩ := h; exact ⟨a, S, n, rfl, rd_keep h1 (fun o => e _ o rfl) (fun ps y => by cases y), h2⟩
theorem isCt_of_OM {o : Option (Option Sl)} (h : isOM o = true) : isCt o = true := by
  match o, h with
  | some (some (.own _)), _ => rfl
  | some (some (.chg _)), _ => rfl
theorem OA.prov (r : Rp G H σ ρ) {a : Addr} (h : OA σ ρ a) : G.W0 a ∨ G.H0 a = none := by
  obtain ⟨i, h1, h2⟩ := h
  cases e : ρ[i]? with
  | none => rw [e] at h1; cases h1
  | some o => cases o with
    | none => rw [e] at h1; cases h1
    | some s =>
      obtain ⟨v, hv, ok⟩ := r.slot i s e
      rw [hv] at h2
      obtain rfl : v = .ref a := Option.some.inj (Option.some.inj h2)
      rw [e] at h1
      cases s with
      | own c => obtain ⟨b, z, _, q⟩ := ok; cases z; exact .inr q
      | chg c => obtain ⟨b, z, _, q⟩ := ok; cases z; exact .inl q
      | im d => cases h1
      | bor c => cases h1
/-- a container's place is no place that may be changed but by its own slot -/
theorem Rp.not_OA (r : Rp G H σ ρ) {i : Nat} {a : Addr} (h : isCt ρ[i]? = true) (hσ : σ[i]? = some (some (V.ref a))) (hi : isOM ρ[i]? = false) : ¬ OA σ ρ a := by
  rintro ⟨j, h1, h2⟩
  by_cases e : j = i
  · subst e; rw [hi] at h1; cases h1
  · exact r.sep j i a e h1 h h2 hσ
theorem SlOk.keep {v : V} {s : Sl} (h : SlOk G H v s) (st : Still H H') (e : isCt (some (some s)) = true → ∀ a o, v = .ref a → H a = some o → (∀ ps, o ≠ .tbl ps) → H' a = some o) : SlOk G H' v s := by
  cases s with
  | im d => exact Dn.still st h
  | own c => obtain ⟨a, rfl, h1, h2⟩ := h; exact ⟨a, rfl, h1.keep st fun o => e rfl a o rfl, h2⟩
  | chg c => obtain ⟨a, rfl, h1, h2⟩ := h; exact ⟨a, rfl, h1.keep st fun o => e rfl a o rfl, h2⟩
  | bor c => obtain ⟨a, rfl, h1⟩ := h; exact ⟨a, rfl, h1.keep st fun o => e rfl a o rfl⟩
theorem SlOk.there {v : V} {s : Sl} (h : SlOk G H v s) (hc : isCt (some (some s)) = true) : ∃ a, v = .ref a ∧ H a ≠ none := by
  cases s with
  | im d => cases hc
  | own c => obtain ⟨a, rfl, h1, h2⟩ := h; exact ⟨a, rfl, h1.there⟩
  | chg c => obtain ⟨a, rfl, h1, h2⟩ := h; exact ⟨a, rfl, h1.there⟩
  | bor c => obtain ⟨a, rfl, h1⟩ := h; exact ⟨a, rfl, h1.there⟩
theorem TabsOk.ext {T : List Addr} (t : TabsOk T H) (h : ∀ a ps, H a = some (.tbl ps) → ∃ more, H' a = some (.tbl (ps ++ more)) ∧ TriplesOk (ps ++ more).toList) : TabsOk T H' := fun P hP => by
  obtain ⟨ps, h1, h2⟩ := t P hP
  obtain ⟨more, h3, h4⟩ := h P ps h1
  exact ⟨_, h3, h4⟩
/-- the heap has grown -/
theorem Rp.same (r : Rp G H σ ρ) (h : Same H H') : Rp G H' σ ρ where
  len := r.len
  slot := fun i s e => by
    obtain ⟨v, h1, h2⟩ := r.slot i s e
    exact ⟨v, h1, h2.keep (.of_same h) fun _ a o _ e _ => h a o e⟩
  sep := r.sep
  ext := r.ext.trans (Ext.of_same (W := G.W0) h) fun c z => .inl z
  tabs := fun P hP => by
    obtain ⟨ps, h1, h2⟩ := r.tabs P hP
    exact ⟨ps, h P _ h1, h2⟩
theorem Stp.of_same (r : Rp G H σ ρ) (h : Same H H') : Stp G σ ρ H ρ H' := ⟨r.same h, .of_same h, fun _ z => z, .refl _⟩
theorem Stp.refl (r : Rp G H σ ρ) : Stp G σ ρ H ρ H := ⟨r, .refl, fun _ z => z, .refl _⟩
theorem OA.sub (h : ∀ i : Nat, isOM ρ'[i]? = true → isOM ρ[i]? = true) {a : Addr} (z : OA σ ρ' a) : OA σ ρ a := let ⟨i, h1, h2⟩ := z; ⟨i, h i h1, h2⟩
theorem Stp.trans (a : Stp G σ ρ H ρ1 H1) (b : Stp G σ ρ1 H1 ρ2 H2) : Stp G σ ρ H ρ2 H2 := ⟨b.rp, a.ext.trans b.ext fun c z => .inl (z.sub a.sub), fun i z => a.sub i (b.sub i z), a.bc.trans b.bc⟩
theorem Stp.then_same (a : Stp G σ ρ H ρ1 H1) (h : Same H1 H2) : Stp G σ ρ H ρ1 H2 := a.trans (.of_same a.rp h)
/-- what can't be looked at as it is by another: no tuple, nothing locked, no table -/
def Soft : Option HO → Prop
  | some (.tup _) => False
  | some (.frz _ u) => ∃ kvs, u = .dK kvs
  | some (.tbl _) => False
  | _ => True
theorem Still.upd {a : Addr} {o : HO} (h : Soft (H a)) : Still H (upd H a o) := by
  refine ⟨fun b xs e => ?_, fun b ob u n e => ?_⟩
  · rw [upd_ne fun z => by subst z; rw [e] at h; exact h]; exact e
  · rw [upd_ne fun z => by subst z; rw [e] at h; obtain ⟨kvs, h⟩ := h; exact n kvs h]; exact e
theorem Ext.upd {W : Addr → Prop} {a : Addr} {o : HO} (h : Soft (H a)) (hw : W a ∨ H a = none) : Ext W H (upd H a o) where
  keep := fun b u e w _ => by
    rw [upd_ne fun z => ?_]
    · exact e
    · subst z
      rcases hw with q | q
      · exact w q
      · rw [q] at e; cases e
  tbl := fun b ps e => ⟨#[], by rw [upd_ne fun z => by subst z; rw [e] at h; exact h]; rw [e]; simp⟩
  still := .upd h
  dom := fun b e => by
    by_cases z : b = a
    · rw [z, upd_same]; exact fun y => by cases y
    · rw [upd_ne z]; exact e
/-- a container slot's place is in the heap -/
theorem Rp.there (r : Rp G H σ ρ) {i : Nat} {a : Addr} (h : isCt ρ[i]? = true) (hσ : σ[i]? = some (some (V.ref a))) : H a ≠ none := by
  cases e : ρ[i]? with
  | none => rw [e] at h; cases h
  | some o => cases o with
    | none => rw [e] at h; cases h
    | some s =>
      obtain ⟨v, hv, ok⟩ := r.slot i s e
      rw [e] at h
      obtain ⟨b, rfl, q⟩ := ok.there h
      rw [hv] at hσ
      cases hσ
      exact q
/-- a place that is no container slot's is changed -/
theorem Rp.upd (r : Rp G H σ ρ) {a : Addr} {o : HO} (hs : Soft (H a)) (hp : G.W0 a ∨ G.H0 a = none) (hn : ∀ i : Nat, isCt ρ[i]? = true → σ[i]? ≠ some (some (V.ref a))) : Rp G (upd H a o) σ ρ where
  len := r.len
  slot := fun i s e => by
    obtain ⟨v, h1, h2⟩ := r.slot i s e
    refine ⟨v, h1, h2.keep (.upd hs) fun hc b u hv eb _ => ?_⟩
    subst hv
    rw [upd_ne fun z => hn i (by rw [e]; exact hc) (by rw [h1, z])]
    exact eb
  sep := r.sep
  ext := by
    refine ⟨fun b u e w t => ?_, fun b ps e => ?_, r.ext.still.trans (.upd hs), fun b q => ?_⟩
    · rw [upd_ne fun z => ?_]
      · exact r.ext.keep b u e w t
      · subst z
        rcases hp with q | q
        · exact w q
        · rw [q] at e; cases e
    · obtain ⟨m, q⟩ := r.ext.tbl b ps e
      exact ⟨m, by rw [upd_ne fun z => by subst z; rw [q] at hs; exact hs]; exact q⟩
    · by_cases z : b = a
      · rw [z, upd_same]; exact fun y => by cases y
      · rw [upd_ne z]; exact r.ext.dom b q
  tabs := fun P hP => by
    obtain ⟨ps, h1, h2⟩ := r.tabs P hP
    exact ⟨ps, by rw [upd_ne fun z => by subst z; rw [h1] at hs; exact hs]; exact h1, h2⟩
theorem same_new {a : Addr} {o : HO} (h : H a = none) : Same H (upd H a o) := fun b u e => by rw [upd_ne (ne_of_none e h)]; exact e
end
end Wk

set_option Elab.async false
set_option linter.all false
set_option maxRecDepth 100000
set_option maxHeartbeats 4000000
/-! the judgements: a term and an expression of the text -/
namespace Wk
open PySem PySem.Spec PyProof.Rows L2

/-- a value that an expression gives: a datum, or a container that stands in no slot -/
def RvOk (G : Gh) (σ : L2.St) (ρ : Sv) (H : Hp) (ρ' : Sv) (H' : Hp) (v : V) : Sl → Prop
  | .im d => Dn G.K H' v d
  | .own c => ∃ a, v = .ref a ∧ CtAt G.K H' a c ∧ G.H0 a = none ∧ (H a = none ∨ OA σ ρ a) ∧ ∀ i : Nat, isCt ρ'[i]? = true → σ[i]? ≠ some (some (V.ref a))
  | _ => False
/-- the exception x, as an object of the class cls with the dict d -/
def ExIs (G : Gh) (x : Ex) (cls : Value) (d : Option Addr) (H : Hp) : Prop :=
  ∃ C ns a vs, G.ec x.cls = some (C, ns) ∧ cls = .ref C ∧ d = some a ∧ H a = some (.xd (ns.zip vs)) ∧ DnAll G.K H vs x.args
def ExP (X : Cx) (G : Gh) (σ : L2.St) (ρ : Sv) (H : Hp) (x : Ex) (ρ' : Sv) : Prop :=
  Takes X fun cls d σ' H' => σ' = σ ∧ ExIs G x cls d H' ∧ Stp G σ ρ H ρ' H'
def Out3 (X : Cx) (G : Gh) (σ : L2.St) (ρ : Sv) (H : Hp) {β : Type} (m : R β) (P : β → Prop) : Prop := match m with
  | .ok b => P b
  | .exc x ρ' => ExP X G σ ρ H x ρ'
  | .bad => False
section
variable {X : Cx} {G : Gh} {σ : L2.St} {ρ ρ1 ρ2 : Sv} {H H1 H2 : Hp} {β γ : Type} {m : R β} {k : β → R γ} {P P' : β → Prop} {Pc : γ → Prop}
theorem Out3.bind (h : Out3 X G σ ρ H (m >>= k) Pc) : Out3 X G σ ρ H m fun b => Out3 X G σ ρ H (k b) Pc := by
  cases m with
  | ok b => exact h
  | exc x ρ' => exact h
  | bad => exact h
theorem Out3.mono (h : Out3 X G σ ρ H m P) (f : ∀ b, m = .ok b → P b → P' b) : Out3 X G σ ρ H m P' := by
  cases m with
  | ok b => exact f b rfl h
  | exc x ρ' => exact h
  | bad => exact h
theorem ExP.later {x : Ex} (s : Stp G σ ρ H ρ1 H1) (h : ExP X G σ ρ H x ρ2) : ExP X G σ ρ1 H1 x ρ2 :=
  Takes.imp h fun c d σ' H' ⟨e, q, t⟩ => ⟨e, q, s.trans t⟩
theorem Out3.later (s : Stp G σ ρ H ρ1 H1) (h : Out3 X G σ ρ H m P) : Out3 X G σ ρ1 H1 m P := by
  cases m with
  | ok b => exact h
  | exc x ρ' => exact ExP.later s h
  | bad => exact h
/-- an operation that raises nothing -/
theorem Out3.get (h : Out3 X G σ ρ H m P) (ne : ∀ x ρ', m ≠ .exc x ρ') : ∃ b, m = .ok b ∧ P b := by
  cases m with
  | ok b => exact ⟨b, rfl, h⟩
  | exc x ρ' => exact absurd rfl (ne x ρ')
  | bad => exact False.elim h
theorem Out3.guard {b : Bool} (h : Out3 X G σ ρ H (guardR b m) P) : b = true ∧ Out3 X G σ ρ H m P := by
  cases b with
  | true => exact ⟨rfl, h⟩
  | false => exact False.elim h
theorem RvOk.later {ρ' : Sv} {H' : Hp} {v : V} {s : Sl} (t : Stp G σ ρ H ρ1 H1) (h : RvOk G σ ρ1 H1 ρ' H' v s) : RvOk G σ ρ H ρ' H' v s := by
  cases s with
  | im d => exact h
  | own c =>
    obtain ⟨a, h1, h2, h3, h4, h5⟩ := h
    refine ⟨a, h1, h2, h3, ?_, h5⟩
    rcases h4 with h4 | h4
    · refine .inl ?_
      cases e : H a with
      | none => rfl
      | some o => exact absurd h4 (t.ext.dom a (by rw [e]; exact fun z => by cases z))
    · exact .inr (h4.sub t.sub)
  | chg c => exact h
  | bor c => exact h
end

/-! ### readings -/
def rdV (X : Cx) (G : Gh) (f : Sv → R (Sl × Sv)) : TE := fun σ H Q => ∃ ρ, Rp G H σ ρ ∧ Out3 X G σ ρ H (f ρ) fun r => ∀ v H', Stp G σ ρ H r.2 H' → RvOk G σ ρ H r.2 H' v r.1 → Q v H'
def rdD (X : Cx) (G : Gh) (f : Sv → R (D × Sv)) : TE := fun σ H Q => ∃ ρ, Rp G H σ ρ ∧ Out3 X G σ ρ H (f ρ) fun r => ∀ v H', Stp G σ ρ H r.2 H' → Dn G.K H' v r.1 → Q v H'
def rdT (X : Cx) (G : Gh) (f : Sv → R (Bool × Sv)) : TT := fun σ H Q => ∃ ρ, Rp G H σ ρ ∧ Out3 X G σ ρ H (f ρ) fun r => ∀ H', Stp G σ ρ H r.2 H' → Q r.1 H'
/-- what is read, as it stands -/
def rdC (X : Cx) (G : Gh) (f : Sv → R (Cn × Sv)) : TE := fun σ H Q => ∃ ρ, Rp G H σ ρ ∧ Out3 X G σ ρ H (f ρ) fun r => ∀ v H', Stp G σ ρ H r.2 H' → CnRd G.K H' v r.1 → Q v H'
section
variable {X : Cx} {G : Gh} {σ : L2.St} {ρ ρ1 ρ2 : Sv} {H H1 H2 : Hp}

/-- a list that stands in no slot is frozen -/
theorem freeze {pins : List (Addr × Obj)} {s : Shared} {σ0 : L2.St} {a : Addr} {xs : List V} (I : Inv X pins σ0 H s) (h : H a = some (.lst xs)) : ∃ o, Inv X pins σ0 (upd H a (.frz o (.lst xs))) s := by
  obtain ⟨z, its, n, r, e⟩ := I.hok a _ h
  refine ⟨{ cls := .type "list", data := .seq its.toArray n }, ?_⟩
  have J := Inv.un (t' := s.toks) (h' := s.heap) (H' := upd H a (.frz { cls := .type "list", data := .seq its.toArray n } (.lst xs))) I
    (Un.write (x := a) (e := a) (by rw [h]; trivial) (.inl rfl) (fun b u _ q => q) ⟨_, e⟩)
    (I.hok.write (by rw [h]; trivial) (.inl rfl) (fun b u _ q => q) ⟨_, e⟩ ⟨e, z, its, n, r, e⟩)
  exact J
theorem DnAll.upd_soft {K : PySem.W.Frag} {a : Addr} {o : HO} {vs : List V} {ds : List D} (h : DnAll K H vs ds) (hs : Soft (H a)) : DnAll K (upd H a o) vs ds := h.still (.upd hs)

theorem pd_of {e : Expr} {f : Sv → R (Sl × Sv)} (h : PE X e (rdV X G f)) : PE X e (rdD X G fun ρ => datR (f ρ)) := by
  refine ⟨fun pins s σ H Q I hq => ?_⟩
  obtain ⟨ρ, rp, o⟩ := hq
  refine thn (h.run pins s σ H (fun v H' => ∃ r : Sl × Sv, Stp G σ ρ H r.2 H' ∧ RvOk G σ ρ H r.2 H' v r.1 ∧ Out3 X G σ ρ H (datS r.1 >>= fun d => R.ok (d, r.2)) fun r => ∀ v H', Stp G σ ρ H r.2 H' → Dn G.K H' v r.1 → Q v H') I
    ⟨ρ, rp, (Out3.bind o).mono fun r _ q v H' st rv => ⟨r, st, rv, q⟩⟩) fun u s1 ⟨v, H1, I1, r1, r, st, rv, q⟩ => ?_
  obtain ⟨sl, ρ1⟩ := r
  cases sl with
  | im d => exact ⟨v, H1, I1, r1, q v H1 st rv⟩
  | own c => cases c with
    | lst ds =>
      obtain ⟨a, rfl, ⟨xs, h1, h2⟩, h3, h4, h5⟩ := rv
      obtain ⟨ob, J⟩ := freeze I1 h1
      have soft : Soft (H1 a) := by rw [h1]; trivial
      refine ⟨.ref a, _, J, r1, q _ _ ⟨st.rp.upd soft (.inr h3) h5, ?_, st.sub, st.bc⟩ (.lst (.inl ⟨ob, upd_same⟩) (h2.upd_soft soft))⟩
      have e1 : Ext (OA σ ρ) H1 (upd H1 a (.frz ob (.lst xs))) → Ext (OA σ ρ) H (upd H1 a (.frz ob (.lst xs))) := fun z => st.ext.trans z fun c y => .inl y
      rcases h4 with h4 | h4
      · refine ⟨fun b u eb w t => ?_, fun b ps eb => ?_, st.ext.still.trans (.upd soft), fun b nb => ?_⟩
        · rw [upd_ne fun z => by subst z; rw [h4] at eb; cases eb]
          exact st.ext.keep b u eb w t
        · obtain ⟨m, em⟩ := st.ext.tbl b ps eb
          exact ⟨m, by rw [upd_ne fun z => by subst z; rw [em] at soft; exact soft]; exact em⟩
        · by_cases z : b = a
          · rw [z, upd_same]; exact fun y => by cases y
          · rw [upd_ne z]; exact st.ext.dom b nb
      · exact e1 (.upd soft (.inl h4))
    | dct kvs => exact False.elim q
    | set xs => exact False.elim q
  | bor c => exact False.elim rv
  | chg c => exact False.elim rv
/-- a datum as a value -/
theorem pv_of {e : Expr} {f : Sv → R (D × Sv)} (h : PE X e (rdD X G f)) : PE X e (rdV X G fun ρ => f ρ >>= fun r => .ok (.im r.1, r.2)) := by
  refine ⟨fun pins s σ H Q I hq => ?_⟩
  obtain ⟨ρ, rp, o⟩ := hq
  exact h.run pins s σ H Q I ⟨ρ, rp, (Out3.bind o).mono fun r _ q v H' st dn => q v H' st dn⟩
/-- a value as it is read -/
theorem pc_of {e : Expr} {f : Sv → R (Sl × Sv)} (h : PE X e (rdV X G f)) : PE X e (rdC X G fun ρ => f ρ >>= fun r => .ok (r.1.cn, r.2)) := by
  refine ⟨fun pins s σ H Q I hq => ?_⟩
  obtain ⟨ρ, rp, o⟩ := hq
  refine h.run pins s σ H Q I ⟨ρ, rp, (Out3.bind o).mono fun r _ q v H' st rv => q v H' st ?_⟩
  obtain ⟨sl, ρ1⟩ := r
  cases sl with
  | im d => exact .n rv
  | own c => obtain ⟨a, rfl, h1, _⟩ := rv; exact h1.rd.cn
  | bor c => exact False.elim rv
  | chg c => exact False.elim rv
theorem rd_congr {e : Expr} {f g : Sv → R (Sl × Sv)} (h : PE X e (rdV X G f)) (q : ∀ ρ, g ρ = f ρ) : PE X e (rdV X G g) := by
  have : g = f := funext q
  rw [this]; exact h
theorem rd_congrD {e : Expr} {f g : Sv → R (D × Sv)} (h : PE X e (rdD X G f)) (q : ∀ ρ, g ρ = f ρ) : PE X e (rdD X G g) := by
  have : g = f := funext q
  rw [this]; exact h

/-! ### running a part -/
section
variable {pins : List (Addr × Obj)} {s : Shared} {e : Expr}
theorem run_D {f : Sv → R (D × Sv)} {P : D × Sv → Prop} (h : PE X e (rdD X G f)) (I : Inv X pins σ H s) (rp : Rp G H σ ρ) (o : Out3 X G σ ρ H (f ρ) P) :
    wpAny (model X.prog X.w) X.A (eval e X.env) (fun u s1 => ∃ (r : D × Sv) (v : V) (H1 : Hp), Inv X pins σ H1 s1 ∧ RelV v u ∧ Stp G σ ρ H r.2 H1 ∧ Dn G.K H1 v r.1 ∧ f ρ = .ok r ∧ P r) X.xe s :=
  thn (h.run pins s σ H (fun v H1 => ∃ r : D × Sv, Stp G σ ρ H r.2 H1 ∧ Dn G.K H1 v r.1 ∧ f ρ = .ok r ∧ P r) I ⟨ρ, rp, o.mono fun r e q v H1 st dn => ⟨r, st, dn, e, q⟩⟩)
    fun u s1 ⟨v, H1, I1, r1, r, st, dn, e, q⟩ => ⟨r, v, H1, I1, r1, st, dn, e, q⟩
theorem run_V {f : Sv → R (Sl × Sv)} {P : Sl × Sv → Prop} (h : PE X e (rdV X G f)) (I : Inv X pins σ H s) (rp : Rp G H σ ρ) (o : Out3 X G σ ρ H (f ρ) P) :
    wpAny (model X.prog X.w) X.A (eval e X.env) (fun u s1 => ∃ (r : Sl × Sv) (v : V) (H1 : Hp), Inv X pins σ H1 s1 ∧ RelV v u ∧ Stp G σ ρ H r.2 H1 ∧ RvOk G σ ρ H r.2 H1 v r.1 ∧ f ρ = .ok r ∧ P r) X.xe s :=
  thn (h.run pins s σ H (fun v H1 => ∃ r : Sl × Sv, Stp G σ ρ H r.2 H1 ∧ RvOk G σ ρ H r.2 H1 v r.1 ∧ f ρ = .ok r ∧ P r) I ⟨ρ, rp, o.mono fun r e q v H1 st dn => ⟨r, st, dn, e, q⟩⟩)
    fun u s1 ⟨v, H1, I1, r1, r, st, dn, e, q⟩ => ⟨r, v, H1, I1, r1, st, dn, e, q⟩
theorem run_C {f : Sv → R (Cn × Sv)} {P : Cn × Sv → Prop} (h : PE X e (rdC X G f)) (I : Inv X pins σ H s) (rp : Rp G H σ ρ) (o : Out3 X G σ ρ H (f ρ) P) :
    wpAny (model X.prog X.w) X.A (eval e X.env) (fun u s1 => ∃ (r : Cn × Sv) (v : V) (H1 : Hp), Inv X pins σ H1 s1 ∧ RelV v u ∧ Stp G σ ρ H r.2 H1 ∧ CnRd G.K H1 v r.1 ∧ f ρ = .ok r ∧ P r) X.xe s :=
  thn (h.run pins s σ H (fun v H1 => ∃ r : Cn × Sv, Stp G σ ρ H r.2 H1 ∧ CnRd G.K H1 v r.1 ∧ f ρ = .ok r ∧ P r) I ⟨ρ, rp, o.mono fun r e q v H1 st dn => ⟨r, st, dn, e, q⟩⟩)
    fun u s1 ⟨v, H1, I1, r1, r, st, dn, e, q⟩ => ⟨r, v, H1, I1, r1, st, dn, e, q⟩
theorem run_T {f : Sv → R (Bool × Sv)} {P : Bool × Sv → Prop} (h : PT X e (rdT X G f)) (I : Inv X pins σ H s) (rp : Rp G H σ ρ) (o : Out3 X G σ ρ H (f ρ) P) :
    wpAny (model X.prog X.w) X.A (isTrue e X.env (eval e X.env)) (fun b s1 => ∃ (r : Bool × Sv) (H1 : Hp), Inv X pins σ H1 s1 ∧ b = r.1 ∧ Stp G σ ρ H r.2 H1 ∧ f ρ = .ok r ∧ P r) X.xe s :=
  thn (h.run pins s σ H (fun b H1 => ∃ r : Bool × Sv, b = r.1 ∧ Stp G σ ρ H r.2 H1 ∧ f ρ = .ok r ∧ P r) I ⟨ρ, rp, o.mono fun r e q H1 st => ⟨r, rfl, st, e, q⟩⟩)
    fun u s1 ⟨H1, I1, r, r1, st, e, q⟩ => ⟨r, H1, I1, r1, st, e, q⟩
end

/-! ### constants and names -/
theorem pv_lit {e : Expr} {v : V} {d : D} (h : PE X e (tC v)) (hd : ∀ H, Dn G.K H v d) : PE X e (rdV X G fun ρ => .ok (.im d, ρ)) :=
  ⟨fun pins s σ H Q I ⟨ρ, rp, o⟩ => h.run pins s σ H Q I (o v H (.refl rp) (hd H))⟩
theorem isCt_set_im {i j : Nat} {d : D} (h : isCt (ρ.set i (some (.im d)))[j]? = true) : isCt ρ[j]? = true ∧ j ≠ i := by
  by_cases e : i = j
  · subst e
    by_cases hi : i < ρ.length
    · rw [List.getElem?_set_self hi] at h; cases h
    · rw [List.getElem?_eq_none (by simpa using hi)] at h; cases h
  · rw [List.getElem?_set_ne e] at h; exact ⟨h, fun z => e z.symm⟩
theorem isOM_set_im {i j : Nat} {d : D} (h : isOM (ρ.set i (some (.im d)))[j]? = true) : isOM ρ[j]? = true ∧ j ≠ i := by
  by_cases e : i = j
  · subst e
    by_cases hi : i < ρ.length
    · rw [List.getElem?_set_self hi] at h; cases h
    · rw [List.getElem?_eq_none (by simpa using hi)] at h; cases h
  · rw [List.getElem?_set_ne e] at h; exact ⟨h, fun z => e z.symm⟩
/-- a slot gets a datum, the slots' values as they are -/
theorem Rp.set_im (r : Rp G H σ ρ) {i : Nat} {d : D} {v : V} (hv : σ[i]? = some (some v)) (hd : Dn G.K H v d) : Rp G H σ (ρ.set i (some (.im d))) where
  len := by rw [List.length_set]; exact r.len
  slot := fun j s e => by
    by_cases z : i = j
    · subst z
      by_cases hi : i < ρ.length
      · rw [List.getElem?_set_self hi] at e
        cases e
        exact ⟨v, hv, hd⟩
      · rw [List.getElem?_eq_none (by simpa using hi)] at e; cases e
    · rw [List.getElem?_set_ne z] at e; exact r.slot j s e
  sep := fun j k a hjk h1 h2 => r.sep j k a hjk (isOM_set_im h1).1 (isCt_set_im h2).1
  ext := r.ext
  tabs := r.tabs
theorem pv_var {e : Expr} {i : Nat} (h : PE X e (tVar i)) : PE X e (rdV X G fun ρ => varS ρ i) := by
  refine ⟨fun pins s σ H Q I ⟨ρ, rp, o⟩ => ?_⟩
  replace o : Out3 X G σ ρ H (varS ρ i) _ := o
  unfold varS at o
  cases e1 : ρ[i]? with
  | none => rw [e1] at o; exact False.elim o
  | some q => cases q with
    | none => rw [e1] at o; exact False.elim o
    | some sl =>
      obtain ⟨v, hv, ok⟩ := rp.slot i sl e1
      rw [e1] at o
      cases sl with
      | im d => exact h.run pins s σ H Q I ⟨v, hv, o v H (.refl rp) ok⟩
      | bor c => exact False.elim o
      | chg c => exact False.elim o
      | own c => cases c with
        | dct kvs => exact False.elim o
        | set xs => exact False.elim o
        | lst ds =>
          obtain ⟨a, rfl, ⟨xs, h1, h2⟩, h3⟩ := ok
          refine thn (h.run pins s σ H (fun v' H' => v' = .ref a ∧ H' = H) I ⟨.ref a, hv, rfl, rfl⟩) fun u s1 ⟨v', H', I1, r1, e2, e3⟩ => ?_
          subst e2 e3
          obtain ⟨ob, J⟩ := freeze I1 h1
          have soft : Soft (H' a) := by rw [h1]; trivial
          have om : isOM ρ[i]? = true := by rw [e1]; rfl
          have dn : Dn G.K (upd H' a (.frz ob (.lst xs))) (.ref a) (.list ds) := .lst (.inl ⟨ob, upd_same⟩) (h2.upd_soft soft)
          refine ⟨.ref a, _, J, r1, o _ _ ⟨?_, .upd soft (.inl ⟨i, om, hv⟩), fun j z => (isOM_set_im z).1, (BC.refl ρ).set rfl⟩ dn⟩
          -- the slot first forgotten, then the heap changed, then the slot told anew
          have rp0 : Rp G H' σ (ρ.set i none) := ⟨by rw [List.length_set]; exact rp.len, fun j s' ej => by
            by_cases z : i = j
            · subst z
              by_cases hi : i < ρ.length
              · rw [List.getElem?_set_self hi] at ej; cases ej
              · rw [List.getElem?_eq_none (by simpa using hi)] at ej; cases ej
            · rw [List.getElem?_set_ne z] at ej; exact rp.slot j s' ej, fun j k b hjk q1 q2 => by
            have n1 : ∀ {l : Nat}, isCt (ρ.set i none)[l]? = true → isCt ρ[l]? = true := fun {l} q => by
              by_cases z : i = l
              · subst z
                by_cases hi : i < ρ.length
                · rw [List.getElem?_set_self hi] at q; cases q
                · rw [List.getElem?_eq_none (by simpa using hi)] at q; cases q
              · rw [List.getElem?_set_ne z] at q; exact q
            have n2 : ∀ {l : Nat}, isOM (ρ.set i none)[l]? = true → isOM ρ[l]? = true := fun {l} q => by
              by_cases z : i = l
              · subst z
                by_cases hi : i < ρ.length
                · rw [List.getElem?_set_self hi] at q; cases q
                · rw [List.getElem?_eq_none (by simpa using hi)] at q; cases q
              · rw [List.getElem?_set_ne z] at q; exact q
            exact rp.sep j k b hjk (n2 q1) (n1 q2), rp.ext, rp.tabs⟩
          have rp1 := rp0.upd (o := .frz ob (.lst xs)) soft (.inr h3) fun j q z => by
            by_cases hj : j = i
            · subst hj
              by_cases hi : j < ρ.length
              · rw [List.getElem?_set_self hi] at q; cases q
              · rw [List.getElem?_eq_none (by simpa using hi)] at q; cases q
            · rw [List.getElem?_set_ne (Ne.symm hj)] at q
              exact rp.sep i j a (Ne.symm hj) om q hv z
          have rp2 := rp1.set_im (i := i) hv dn
          rw [List.set_set] at rp2
          exact rp2
end
end Wk

set_option Elab.async false
set_option linter.all false
set_option maxRecDepth 100000
set_option maxHeartbeats 4000000
/-! operators by values -/
namespace Wk
open PySem PySem.Spec PyProof.Rows L2

/-- an operator's result -/
def ResV (K : PySem.W.Frag) (H H' : Hp) (z : V) : D → Prop
  | .list ds => ∃ a xs, z = .ref a ∧ H a = none ∧ H' a = some (.lst xs) ∧ DnAll K H' xs ds
  | d => Dn K H' z d
theorem ResV.rv {G : Gh} {σ : L2.St} {ρ : Sv} {H H' : Hp} {z : V} {d : D} (rp : Rp G H σ ρ) (sm : Same H H') (h : ResV G.K H H' z d) : RvOk G σ ρ H ρ H' z (slD d) := by
  cases d with
  | list ds =>
    obtain ⟨a, xs, rfl, hn, h1, h2⟩ := h
    refine ⟨a, rfl, ⟨xs, h1, h2⟩, ?_, .inl hn, fun i hi z => rp.there hi z hn⟩
    cases e : G.H0 a with
    | none => rfl
    | some o => exact absurd hn (rp.ext.dom a (by rw [e]; exact fun z => by cases z))
  | _ => exact h
/-- a two-place operation over data -/
def OpD (X : Cx) (f : Value → Value → Sem Value) (g : D → D → R D) : Prop :=
  ∀ (pins : List (Addr × Obj)) (s : Shared) (σ : L2.St) (H : Hp) (x y : V) (v u : Value) (a b r : D), Inv X pins σ H s → RelV x v → RelV y u → Dn X.K H x a → Dn X.K H y b → g a b = .ok r →
    wpAny (model X.prog X.w) X.A (f v u) (EP X pins σ fun z H' => Same H H' ∧ ResV X.K H H' z r) X.xe s

section
variable {X : Cx} {G : Gh}
theorem pv_op {op : Operator} {g : D → D → R D} {a b : Expr} {pos : Pos} {fa fb : Sv → R (D × Sv)} (hK : X.K = G.K) (ho : OpD X (binaryOp op) g) (ne : ∀ a b x ρ, g a b ≠ .exc x ρ) (ha : PE X a (rdD X G fa)) (hb : PE X b (rdD X G fb)) :
    PE X (.BinOp a op b pos) (rdV X G fun ρ => fa ρ >>= fun r => fb r.2 >>= fun r2 => g r.1 r2.1 >>= fun d => .ok (slD d, r2.2)) := by
  refine ⟨fun pins s σ H Q I ⟨ρ, rp, o⟩ => ?_⟩
  refine wpAny_BinOp (thn (run_D ha I rp (Out3.bind o)) fun v s1 ⟨r, x, H1, I1, r1, st, dn, _, q⟩ => thn (run_D hb I1 st.rp ((Out3.bind q).later st)) fun u s2 ⟨r2, y, H2, I2, ry, st2, dn2, _, q2⟩ => ?_)
  obtain ⟨d, e, q3⟩ := (Out3.bind q2).get (ne r.1 r2.1)
  refine thn (ho pins s2 σ H2 x y v u r.1 r2.1 d I2 r1 ry (hK ▸ dn.still st2.ext.still) (hK ▸ dn2) e) fun z s3 ⟨w, H3, I3, r3, sm, rs⟩ => ?_
  exact ⟨w, H3, I3, r3, q3 w H3 ((st.trans st2).then_same sm) ((ResV.rv st2.rp sm (hK ▸ rs)).later (st.trans st2))⟩
/-- a comparison over data -/
def CmD (X : Cx) (f : Value → Value → Sem Value) (g : D → D → R Bool) : Prop :=
  ∀ (pins : List (Addr × Obj)) (s : Shared) (σ : L2.St) (H : Hp) (x y : V) (v u : Value) (a b : D) (c : Bool), Inv X pins σ H s → RelV x v → RelV y u → Dn X.K H x a → Dn X.K H y b → g a b = .ok c →
    wpAny (model X.prog X.w) X.A (f v u) (EP X pins σ fun z H' => z = .bl c ∧ H' = H) X.xe s
theorem pd_cmp {op : CmpOp} {g : D → D → R Bool} {a b : Expr} {pos : Pos} {fa fb : Sv → R (D × Sv)} (hK : X.K = G.K) (ho : CmD X (compareOp op) g) (ne : ∀ a b x ρ, g a b ≠ .exc x ρ) (ha : PE X a (rdD X G fa)) (hb : PE X b (rdD X G fb)) (hm : behindInMarks op b = false) :
    PE X (.Compare a [op] [b] pos) (rdD X G fun ρ => fa ρ >>= fun r => fb r.2 >>= fun r2 => g r.1 r2.1 >>= fun c => .ok (.bool c, r2.2)) := by
  refine ⟨fun pins s σ H Q I ⟨ρ, rp, o⟩ => ?_⟩
  refine wpAny_Compare1 (thn (run_D ha I rp (Out3.bind o)) fun v s1 ⟨r, x, H1, I1, r1, st, dn, _, q⟩ => thn (run_D hb I1 st.rp ((Out3.bind q).later st)) fun u s2 ⟨r2, y, H2, I2, ry, st2, dn2, _, q2⟩ => ?_) hm
  obtain ⟨c, e, q3⟩ := (Out3.bind q2).get (ne r.1 r2.1)
  refine thn (ho pins s2 σ H2 x y v u r.1 r2.1 c I2 r1 ry (hK ▸ dn.still st2.ext.still) (hK ▸ dn2) e) fun z s3 ⟨w, H3, I3, r3, e1, e2⟩ => ?_
  subst e1 e2
  exact ⟨.bl c, H3, I3, r3, q3 _ _ (st.trans st2) (.bl c)⟩
end

/-! ### the operators -/
section
variable {X : Cx} {pins : List (Addr × Obj)} {s : Shared} {σ : L2.St} {H : Hp}
theorem SOk.append {a b : Str} (ha : SOk a) (hb : SOk b) (h : a.length + b.length ≤ sizeLine) : SOk (a ++ b) := by
  have e : (a ++ b).cps = a.cps ++ b.cps := rfl
  refine ⟨?_, ?_⟩
  · have h1 : a.cps.all (· < 0x110000) = true := ha.1
    have h2 : b.cps.all (· < 0x110000) = true := hb.1
    show (a ++ b).cps.all (· < 0x110000) = true
    rw [e, Array.all_append, h1, h2] <;> rfl
  · show (a ++ b).cps.size ≤ sizeLine
    rw [e, Array.size_append]
    exact h
theorem depth_room {a b : D} (h : depthOk a b = true) {n : Nat} (hu : n + 64 < cLine) : n + min a.depth b.depth < cLine := by
  have := of_decide_eq_true h
  omega
theorem lineN_le : lineN ≤ sizeLine := by decide
theorem guard_some {α : Type} {b : Bool} {m : R α} {x : Ex} {ρ : Sv} (h : m ≠ .exc x ρ) : guardR b m ≠ .exc x ρ := by
  unfold guardR; split
  · exact h
  · exact fun z => by cases z
theorem binD_ne (op : Bop) (a b : D) (x : Ex) (ρ : Sv) : binD op a b ≠ .exc x ρ := by
  unfold binD
  split <;> first | (exact fun z => by cases z) | exact guard_some fun z => by cases z
theorem cmpD_ne (op : Cop) (a b : D) (x : Ex) (ρ : Sv) : cmpD op a b ≠ .exc x ρ := by
  unfold cmpD
  split <;> first | (exact fun z => by cases z) | exact guard_some fun z => by cases z
def opOf : Bop → Operator
  | .add => .Add
  | .sub => .Sub
  | .mul => .Mult
  | .fdiv => .FloorDiv
  | .mod => .Mod
  | .pow => .Pow
def copOf : Cop → CmpOp
  | .eq => .Eq
  | .ne => .NotEq
  | .lt => .Lt
  | .le => .LtE
  | .gt => .Gt
  | .ge => .GtE
/-- an int as a result -/
theorem res_int {z : V} {H' : Hp} {i : Int} (h : z = .int i ∧ H' = H) : Same H H' ∧ ResV X.K H H' z (.int i) := by
  obtain ⟨rfl, rfl⟩ := h
  exact ⟨.refl _, .int i⟩
theorem EP.imp {Q Q' : VK} {u : Value} {s' : Shared} (h : EP X pins σ Q u s') (f : ∀ v H', Q v H' → Q' v H') : EP X pins σ Q' u s' :=
  let ⟨v, H', I, r, q⟩ := h; ⟨v, H', I, r, f v H' q⟩
/-- an operator's rule of the layer, on ints -/
theorem opd_int {f : Value → Value → Sem Value} {r : R2} (ho : OpR X f r) {x y : V} {v u : Value} {i : Int} (I : Inv X pins σ H s) (rx : RelV x v) (ry : RelV y u) (h : r x y H fun z H' => z = .int i ∧ H' = H) :
    wpAny (model X.prog X.w) X.A (f v u) (EP X pins σ fun z H' => Same H H' ∧ ResV X.K H H' z (.int i)) X.xe s :=
  thn (ho pins s σ H x y v u _ I rx ry h) fun u s' h => EP.imp h fun v H' q => res_int q
theorem small64_ok {i : Int} (h : small64 i = true) : -(2 ^ 64) < i ∧ i < 2 ^ 64 := by
  unfold small64 at h
  obtain ⟨h1, h2⟩ := Bool.and_eq_true_iff.mp h
  exact ⟨of_decide_eq_true h1, of_decide_eq_true h2⟩
theorem bin_ok (op : Bop) : OpD X (binaryOp (opOf op)) (binD op) := by
  intro pins s σ H x y v u a b r I rx ry ha hb e
  unfold binD at e
  split at e
  · cases e
    obtain rfl := ha.int_eq; obtain rfl := hb.int_eq
    exact opd_int op_add I rx ry ⟨_, _, rfl, rfl, rfl, rfl⟩
  · obtain ⟨g, e⟩ := guardR_ok e
    cases e
    obtain ⟨rfl, o1⟩ := ha.str_eq; obtain ⟨rfl, o2⟩ := hb.str_eq
    have g := of_decide_eq_true g
    refine thn (op_add_str pins s σ H _ _ v u (fun z H' => z = .str _ ∧ H' = H) I rx ry ⟨_, _, rfl, rfl, Nat.le_trans g lineN_le, rfl, rfl⟩) fun u s' h => EP.imp h fun v H' ⟨q1, q2⟩ => ?_
    subst q1 q2
    exact ⟨.refl _, .str _ (o1.append o2 (Nat.le_trans g lineN_le))⟩
  · obtain ⟨g, e⟩ := guardR_ok e
    cases e
    have g := of_decide_eq_true g
    obtain ⟨p, xs, rfl, h1, h2⟩ := ha.tuple
    obtain ⟨q, ys, rfl, h3, h4⟩ := hb.tuple
    have l1 := h2.length
    have l2 := h4.length
    refine thn (op_catA pins s σ H _ _ v u (fun z H' => (Same H H' ∧ ∃ c, z = .ref c ∧ SqT X.K H' c (xs ++ ys))) I rx ry ⟨p, q, xs, ys, rfl, rfl, h1, h3, by have := lineN_le; omega, fun e => ?_, fun _ e => ?_, fun _ _ c hc => ?_⟩) fun u s' h => EP.imp h fun v H' ⟨sm, c, e, hq⟩ => ?_
    · subst e; exact ⟨.refl _, q, rfl, h3⟩
    · subst e; rw [List.append_nil]; exact ⟨.refl _, p, rfl, h1⟩
    · exact ⟨same_new hc, c, rfl, .of upd_same⟩
    · subst e
      exact ⟨sm, .tup hq ((h2.still (.of_same sm)).append (h4.still (.of_same sm)))⟩
  · obtain ⟨g, e⟩ := guardR_ok e
    cases e
    have g := of_decide_eq_true g
    obtain ⟨p, xs, rfl, h1, h2⟩ := ha.list
    obtain ⟨q, ys, rfl, h3, h4⟩ := hb.list
    have l1 := h2.length
    have l2 := h4.length
    cases rx
    cases ry
    obtain ⟨its, r1, ⟨⟨cls, dd, data, sl⟩, n, ho, hc, hdn, hd⟩, _⟩ := I.list h1.sq
    obtain ⟨its2, r2, ⟨⟨cls2, dd2, data2, sl2⟩, n2, ho2, hc2, hdn2, hd2⟩, _⟩ := I.list h3.sq
    simp only at hc hd hc2 hd2
    subst hc hd hc2 hd2
    have z1 := r1.length
    have z2 := r2.length
    have zz := lineN_le
    refine concat_meets ⟨_, ho, rfl⟩ ⟨_, ho2, rfl⟩ noFill_list_add seq_list_add PySem.F.slot_list_add PySem.F.entry_list_add (PySem.F.args_list_add_2 _ _) (list_addW p q its.toArray its2.toArray n n2 dd dd2 sl sl2 (by simp; omega)) ⟨ho, ho2, ?_⟩
    have ea : its.toArray ++ its2.toArray = (its ++ its2).toArray := by simp
    rw [ea]
    have hn := I.fresh
    refine ⟨.ref _, _, I.lnew (t' := s.toks) (r1.append r2) (by rw [List.length_append]; omega), rfl, same_new hn, _, _, rfl, hn, upd_same, ?_⟩
    exact (h2.append h4).still (.of_same (same_new hn))
  · cases e
    obtain rfl := ha.int_eq; obtain rfl := hb.int_eq
    exact opd_int op_sub I rx ry ⟨_, _, rfl, rfl, rfl, rfl⟩
  · obtain ⟨g, e⟩ := guardR_ok e
    cases e
    obtain rfl := ha.int_eq; obtain rfl := hb.int_eq
    refine opd_int op_mul I rx ry ⟨_, _, rfl, rfl, ?_, rfl, rfl⟩
    rcases Bool.or_eq_true_iff.mp g with g | g
    · exact .inl (small64_ok g)
    · exact .inr (small64_ok g)
  · obtain ⟨g, e⟩ := guardR_ok e
    cases e
    obtain rfl := ha.int_eq; obtain rfl := hb.int_eq
    obtain ⟨g1, g2⟩ := Bool.and_eq_true_iff.mp g
    exact opd_int op_fdiv I rx ry ⟨_, _, rfl, rfl, ⟨of_decide_eq_true g1, of_decide_eq_true g2⟩, rfl, rfl⟩
  · obtain ⟨g, e⟩ := guardR_ok e
    cases e
    obtain rfl := ha.int_eq; obtain rfl := hb.int_eq
    exact opd_int op_mod I rx ry ⟨_, _, rfl, rfl, of_decide_eq_true g, rfl, rfl⟩
  · obtain ⟨g, e⟩ := guardR_ok e
    cases e
    obtain rfl := ha.int_eq; obtain rfl := hb.int_eq
    obtain ⟨g1, g2⟩ := Bool.and_eq_true_iff.mp g
    obtain ⟨g2, g3⟩ := Bool.and_eq_true_iff.mp g2
    exact opd_int op_pow I rx ry ⟨_, _, rfl, rfl, ⟨of_decide_eq_true g1, of_decide_eq_true g2, of_decide_eq_true g3⟩, rfl, rfl⟩
  · obtain ⟨g, e⟩ := guardR_ok e
    cases e
    obtain ⟨p, xs, rfl, h1, h2⟩ := ha.tuple
    obtain rfl := hb.int_eq
    obtain ⟨g1, g2⟩ := Bool.and_eq_true_iff.mp g
    obtain ⟨g2, g3⟩ := Bool.and_eq_true_iff.mp g2
    obtain ⟨g3, g4⟩ := Bool.and_eq_true_iff.mp g3
    have l1 := h2.length
    have g3 := of_decide_eq_true g3
    have g4 := of_decide_eq_true g4
    refine thn (op_repT pins s σ H _ _ v u (fun z H' => (Same H H' ∧ ∃ c, z = .ref c ∧ SqT X.K H' c _)) I rx ry ⟨p, _, xs, rfl, rfl, h1, fun z => by subst z; simp at l1; omega, of_decide_eq_true g1, of_decide_eq_true g2, by omega, fun c hc => ⟨same_new hc, c, rfl, .of upd_same⟩⟩) fun u s' h => EP.imp h fun v H' ⟨sm, c, e, hq⟩ => ?_
    subst e
    exact ⟨sm, .tup hq ((h2.still (.of_same sm)).replicate _)⟩
  · cases e
theorem cmp_ok (hu : X.A.units + 64 < cLine) (op : Cop) : CmD X (compareOp (copOf op)) (cmpD op) := by
  intro pins s σ H x y v u a b c I rx ry ha hb e
  unfold cmpD at e
  split at e
  · obtain ⟨g, e⟩ := guardR_ok e
    cases e
    obtain ⟨as, q1⟩ := Dp.reads I a x v ha.dp rx
    obtain ⟨bs, q2⟩ := Dp.reads I b y u hb.dp ry
    exact PySem.SeqAt.compareEq_reads q1 q2 ha.lay hb.lay (depth_room g hu) ⟨.bl _, H, I, rfl, rfl, rfl⟩
  · obtain ⟨g, e⟩ := guardR_ok e
    cases e
    obtain ⟨as, q1⟩ := Dp.reads I a x v ha.dp rx
    obtain ⟨bs, q2⟩ := Dp.reads I b y u hb.dp ry
    exact PySem.SeqAt.compareNe_reads q1 q2 ha.lay hb.lay (depth_room g hu) ⟨.bl _, H, I, rfl, rfl, rfl⟩
  · cases e
    obtain rfl := ha.int_eq; obtain rfl := hb.int_eq
    exact op_lt pins s σ H _ _ v u _ I rx ry ⟨_, _, rfl, rfl, rfl, rfl⟩
  · cases e
    obtain rfl := ha.int_eq; obtain rfl := hb.int_eq
    exact op_le pins s σ H _ _ v u _ I rx ry ⟨_, _, rfl, rfl, rfl, rfl⟩
  · cases e
    obtain rfl := ha.int_eq; obtain rfl := hb.int_eq
    exact op_gt pins s σ H _ _ v u _ I rx ry ⟨_, _, rfl, rfl, rfl, rfl⟩
  · cases e
    obtain rfl := ha.int_eq; obtain rfl := hb.int_eq
    exact op_ge pins s σ H _ _ v u _ I rx ry ⟨_, _, rfl, rfl, rfl, rfl⟩
  · cases e
end
/-! ### keys -/
section
variable {K : PySem.W.Frag} {H : Hp}
theorem Dn.key {v : V} {d : D} (h : Dn K H v d) (hk : isKey d = true) : ∃ k : Key, v = kV k := by
  cases h with
  | int i => exact ⟨.inl i, rfl⟩
  | str x _ => exact ⟨.inr x, rfl⟩
  | _ => cases hk
theorem eqv_key {k j : Key} {a b : D} (ha : Dn K H (kV k) a) (hb : Dn K H (kV j) b) : PyData.eqv a b = decide (k = j) := by
  cases k with
  | inl i =>
    cases ha
    cases j with
    | inl i' => cases hb; simp only [PyData.eqv]; rw [key_ll]
    | inr x => cases hb; simp only [PyData.eqv]; rw [key_lr]
  | inr x =>
    cases ha
    cases j with
    | inl i' => cases hb; simp only [PyData.eqv]; rw [key_rl]
    | inr y =>
      cases hb
      simp only [PyData.eqv]
      rw [key_rr]
      by_cases e : x = y
      · subst e; simp
      · simp [e]
theorem key_look {k : Key} {kd : D} (hk : Dn K H (kV k) kd) : ∀ {xs : List (Key × V)} {kvs : List (D × D)}, KvAll K H xs kvs →
    (valV xs k = none ∧ lookD kd kvs = none) ∨ ∃ v d, valV xs k = some v ∧ lookD kd kvs = some d ∧ Dn K H v d
  | _, _, .nil => .inl ⟨rfl, rfl⟩
  | _, _, @KvAll.cons _ _ j v r a b s h1 h2 t => by
    have e := eqv_key h1 hk
    by_cases hj : j = k
    · rw [decide_eq_true hj] at e
      refine .inr ⟨v, b, valV_pos hj, ?_, h2⟩
      unfold lookD
      rw [List.find?_cons, e] <;> rfl
    · rw [decide_eq_false hj] at e
      have q := key_look hk t
      rw [valV_neg (p := (j, v)) hj]
      have e2 : lookD kd ((a, b) :: s) = lookD kd s := by
        unfold lookD
        rw [List.find?_cons, e]
      rw [e2]
      exact q
theorem key_any {k : Key} {kd : D} (hk : Dn K H (kV k) kd) : ∀ {xs : List (Key × V)} {kvs : List (D × D)}, KvAll K H xs kvs → (xs.any fun kv => decide (kv.1 = k)) = kvs.any fun p => PyData.eqv p.1 kd
  | _, _, .nil => rfl
  | _, _, .cons h1 _ t => by
    rw [List.any_cons, List.any_cons, key_any hk t, eqv_key h1 hk]
theorem KvAll.append : ∀ {xs ys : List (Key × V)} {as bs : List (D × D)}, KvAll K H xs as → KvAll K H ys bs → KvAll K H (xs ++ ys) (as ++ bs)
  | _, _, _, _, .nil, q => q
  | _, _, _, _, .cons h1 h2 t, q => .cons h1 h2 (t.append q)
theorem key_put {k : Key} {kd d : D} {v : V} (hk : Dn K H (kV k) kd) (hv : Dn K H v d) {xs : List (Key × V)} {kvs : List (D × D)} (h : KvAll K H xs kvs) : KvAll K H (putK xs k v) (putD kd d kvs) := by
  have mp : ∀ {xs : List (Key × V)} {kvs : List (D × D)}, KvAll K H xs kvs → KvAll K H (xs.map fun kv => if kv.1 = k then (kv.1, v) else kv) (kvs.map fun p => if PyData.eqv p.1 kd = true then (p.1, d) else p) := by
    intro xs kvs h
    induction h with
    | nil => exact .nil
    | @cons j w r a b s h1 h2 t ih =>
      rw [List.map_cons, List.map_cons]
      have e := eqv_key h1 hk
      by_cases hj : j = k
      · rw [decide_eq_true hj] at e
        rw [if_pos hj, if_pos e]
        exact .cons h1 hv ih
      · rw [decide_eq_false hj] at e
        rw [if_neg hj, if_neg (by rw [e]; exact Bool.false_ne_true)]
        exact .cons h1 h2 ih
  unfold putK putD
  rw [key_any hk h]
  split
  · exact mp h
  · exact h.append (.cons hk hv .nil)
theorem KvAll.keys : ∀ {xs : List (Key × V)} {kvs : List (D × D)}, KvAll K H xs kvs → DnAll K H (xs.map fun p => kV p.1) (kvs.map (·.1))
  | _, _, .nil => .nil
  | _, _, .cons h1 _ t => .cons h1 t.keys
end

/-! ### membership, truth, none -/
theorem memD_ne (x : D) (c : Cn) (e : Ex) (ρ : Sv) : memD x c ≠ .exc e ρ := by
  unfold memD
  split <;> first | (exact fun z => by cases z) | exact guard_some fun z => by cases z
section
variable {X : Cx} {G : Gh} {pins : List (Addr × Obj)} {s : Shared} {σ : L2.St} {H : Hp}
theorem mem_ok (hr : X.A.units + 64 < cLine) {ng : Bool} {x y : V} {v u : Value} {a : D} {c : Cn} {b : Bool} (I : Inv X pins σ H s) (rx : RelV x v) (ry : RelV y u) (ha : Dn X.K H x a) (hc : CnRd X.K H y c) (e : memD a c = .ok b) :
    wpAny (model X.prog X.w) X.A (compareOp (if ng = true then .NotIn else .In) v u) (EP X pins σ fun z H' => z = .bl (ng.xor b) ∧ H' = H) X.xe s := by
  unfold memD at e
  have room : ∀ {xs : List D}, decide (min (PyData.depthAll xs) a.depth ≤ 59) = true → X.A.units + 1 + min (PyData.depthAll xs) a.depth < cLine := fun {xs} g => by
    have := of_decide_eq_true g
    omega
  split at e
  · rename_i xs
    obtain ⟨g, e⟩ := guardR_ok e
    cases e
    have hc : Dr X.K H y (.list xs) := hc
    obtain ⟨as, q1⟩ := Dp.reads I a x v ha.dp rx
    obtain ⟨bs, q2⟩ := Dp.reads I _ y u hc.dp ry
    have l := hc.lay
    simp only [PyData.canLay0] at l
    cases ng with
    | false => exact PySem.SeqAt.in_list_reads q2 q1 l ha.lay (room g) ⟨.bl _, H, I, rfl, by simp, rfl⟩
    | true => exact PySem.SeqAt.notIn_list_reads q2 q1 l ha.lay (room g) ⟨.bl _, H, I, rfl, by simp, rfl⟩
  · rename_i xs
    obtain ⟨g, e⟩ := guardR_ok e
    cases e
    have hc : Dr X.K H y (.tuple xs) := hc
    obtain ⟨as, q1⟩ := Dp.reads I a x v ha.dp rx
    obtain ⟨bs, q2⟩ := Dp.reads I _ y u hc.dp ry
    have l := hc.lay
    simp only [PyData.canLay0] at l
    cases ng with
    | false => exact PySem.SeqAt.in_tuple_reads q2 q1 l ha.lay (room g) ⟨.bl _, H, I, rfl, by simp, rfl⟩
    | true => exact PySem.SeqAt.notIn_tuple_reads q2 q1 l ha.lay (room g) ⟨.bl _, H, I, rfl, by simp, rfl⟩
  · rename_i kvs
    obtain ⟨g, e⟩ := guardR_ok e
    cases e
    obtain ⟨p, xs, rfl, h1, h2⟩ := hc
    obtain ⟨k, rfl⟩ := ha.key g
    obtain rfl : u = Value.ref p := ry
    have dg : DGet H p (kV k) (valV xs k) := .inl ⟨xs, k, h1, rfl, rfl⟩
    have el : (valV xs k).isSome = (lookD a kvs).isSome := by
      rcases key_look ha h2 with ⟨q1, q2⟩ | ⟨w, d, q1, q2, _⟩ <;> rw [q1, q2] <;> rfl
    cases ng with
    | false => exact d_in (by omega) I dg rx fun s3 I3 => ⟨.bl _, H, I3, rfl, by rw [el]; simp, rfl⟩
    | true => exact d_notIn (by omega) I dg rx fun s3 I3 => ⟨.bl _, H, I3, rfl, by rw [el]; simp, rfl⟩
  · cases e
theorem pd_mem {ng : Bool} {a b : Expr} {pos : Pos} {fa : Sv → R (D × Sv)} {fb : Sv → R (Cn × Sv)} (hr : X.A.units + 64 < cLine) (hK : X.K = G.K) (ha : PE X a (rdD X G fa)) (hb : PE X b (rdC X G fb)) (hm : behindInMarks (if ng = true then .NotIn else .In) b = false) :
    PE X (.Compare a [if ng = true then .NotIn else .In] [b] pos) (rdD X G fun ρ => fa ρ >>= fun r => fb r.2 >>= fun r2 => memD r.1 r2.1 >>= fun c => .ok (.bool (ng.xor c), r2.2)) := by
  refine ⟨fun pins s σ H Q I ⟨ρ, rp, o⟩ => ?_⟩
  refine wpAny_Compare1 (thn (run_D ha I rp (Out3.bind o)) fun v s1 ⟨r, x, H1, I1, r1, st, dn, _, q⟩ => thn (run_C hb I1 st.rp ((Out3.bind q).later st)) fun u s2 ⟨r2, y, H2, I2, ry, st2, cn, _, q2⟩ => ?_) hm
  obtain ⟨c, e, q3⟩ := (Out3.bind q2).get (memD_ne r.1 r2.1)
  refine thn (mem_ok (ng := ng) hr I2 r1 ry (hK ▸ dn.still st2.ext.still) (hK ▸ cn) e) fun z s3 ⟨w, H3, I3, r3, e1, e2⟩ => ?_
  subst e1 e2
  exact ⟨.bl _, H3, I3, r3, q3 _ _ (st.trans st2) (.bl _)⟩
theorem pd_isn {ng : Bool} {a : Expr} {j : Nat} {pos pos' : Pos} {fa : Sv → R (D × Sv)} (ha : PE X a (rdD X G fa)) :
    PE X (.Compare a [if ng = true then .IsNot else .Is] [.Constant .none j pos'] pos) (rdD X G fun ρ => fa ρ >>= fun r => .ok (.bool (ng.xor (isNone r.1)), r.2)) := by
  cases ng with
  | false => exact ⟨fun pins s σ H Q I ⟨ρ, rp, o⟩ => (pe_cmp (pc_isN ha) (by rfl)).run pins s σ H Q I ⟨ρ, rp, (Out3.bind o).mono fun r _ q v H' st dn => by
      have e := q (.bl (isNone r.1)) H' st (by simpa using Dn.bl (isNone r.1))
      show Q (.bl (decide (v = .non))) H'
      rw [dn.isNone]; exact e⟩⟩
  | true => exact ⟨fun pins s σ H Q I ⟨ρ, rp, o⟩ => (pe_cmp (pc_notN ha) (by rfl)).run pins s σ H Q I ⟨ρ, rp, (Out3.bind o).mono fun r _ q v H' st dn => by
      have e := q (.bl (!isNone r.1)) H' st (by simpa using Dn.bl (!isNone r.1))
      show Q (.bl (!decide (v = .non))) H'
      rw [dn.isNone]; exact e⟩⟩
theorem pd_neg {a : Expr} {pos : Pos} {fa : Sv → R (D × Sv)} (ha : PE X a (rdD X G fa)) :
    PE X (.UnaryOp .USub a pos) (rdD X G fun ρ => fa ρ >>= fun r => match r.1 with
      | .int i => .ok (.int (-i), r.2)
      | _ => .bad) := by
  refine ⟨fun pins s σ H Q I ⟨ρ, rp, o⟩ => (pe_un un_neg ha).run pins s σ H Q I ⟨ρ, rp, (Out3.bind o).mono fun r _ q v H' st dn => ?_⟩⟩
  obtain ⟨d, ρ1⟩ := r
  cases d with
  | int i => obtain rfl := dn.int_eq; exact ⟨i, rfl, q _ _ st (.int (-i))⟩
  | _ => exact False.elim q

/-! ### truth -/
theorem truthC_ne (c : Cn) (x : Ex) (ρ : Sv) : truthC c ≠ .exc x ρ := by
  unfold truthC truthD
  split <;> (try split) <;> exact fun z => by cases z
theorem sok_len {x : Str} (h : SOk x) : x.length ≤ sizeLine := h.2
theorem truthD_v {K : PySem.W.Frag} {v : V} {d : D} {b : Bool} (h : Dr K H v d) (e : truthD d = .ok b) : TruV K v H b := by
  unfold truthD at e
  split at e
  · cases e; cases h with | n h => cases h; rfl
  · cases e; cases h with | n h => cases h; rfl
  · cases e; cases h with | n h => cases h; rfl
  · cases e; obtain ⟨rfl, o⟩ := h.str_eq; exact ⟨o.2, rfl⟩
  · cases e
    obtain ⟨a, xs, rfl, h1, h2⟩ := h.list
    exact .inl ⟨xs, h1, by
      have l := h2.length
      cases xs <;> cases h2 <;> rfl⟩
  · cases e
    obtain ⟨a, xs, rfl, h1, h2⟩ := h.tuple
    exact .inr (.inl ⟨xs, h1, by
      have l := h2.length
      cases xs <;> cases h2 <;> rfl⟩)
  · cases e
end
end Wk

set_option Elab.async false
set_option linter.all false
set_option maxRecDepth 100000
set_option maxHeartbeats 4000000
/-! tests, displays, items, slices, lengths -/
namespace Wk
open PySem PySem.Spec PyProof.Rows L2

/-- a value whose truth is told -/
def rdK (X : Cx) (G : Gh) (f : Sv → R (Bool × Sv)) : TE := fun σ H Q => ∃ ρ, Rp G H σ ρ ∧ Out3 X G σ ρ H (f ρ) fun r => ∀ v H', Stp G σ ρ H r.2 H' → TruV G.K v H' r.1 → Q v H'
section
variable {X : Cx} {G : Gh} {σ : L2.St} {ρ ρ1 ρ2 : Sv} {H H1 H2 : Hp} {e a b c : Expr} {pos : Pos}
theorem run_K {pins : List (Addr × Obj)} {s : Shared} {f : Sv → R (Bool × Sv)} {P : Bool × Sv → Prop} (h : PE X e (rdK X G f)) (I : Inv X pins σ H s) (rp : Rp G H σ ρ) (o : Out3 X G σ ρ H (f ρ) P) :
    wpAny (model X.prog X.w) X.A (eval e X.env) (fun u s1 => ∃ (r : Bool × Sv) (v : V) (H1 : Hp), Inv X pins σ H1 s1 ∧ RelV v u ∧ Stp G σ ρ H r.2 H1 ∧ TruV G.K v H1 r.1 ∧ f ρ = .ok r ∧ P r) X.xe s :=
  thn (h.run pins s σ H (fun v H1 => ∃ r : Bool × Sv, Stp G σ ρ H r.2 H1 ∧ TruV G.K v H1 r.1 ∧ f ρ = .ok r ∧ P r) I ⟨ρ, rp, o.mono fun r e q v H1 st dn => ⟨r, st, dn, e, q⟩⟩)
    fun u s1 ⟨v, H1, I1, r1, r, st, dn, e, q⟩ => ⟨r, v, H1, I1, r1, st, dn, e, q⟩
theorem truth_run {pins : List (Addr × Obj)} {s : Shared} {v : V} {u : Value} {k : Bool} (hK : X.K = G.K) (I : Inv X pins σ H s) (r : RelV v u) (t : TruV G.K v H k) :
    wpAny (model X.prog X.w) X.A (truthy u) (fun c s1 => c = k ∧ Inv X pins σ H s1) X.xe s :=
  thn (tru_ok pins s σ H v u (fun c H2 => c = k ∧ H2 = H) I r ⟨k, hK ▸ t, rfl, rfl⟩) fun c s2 ⟨H2, I2, e1, e2⟩ => ⟨e1, e2 ▸ I2⟩
/-- a value's truth by what it is -/
theorem pk_of {f : Sv → R (Sl × Sv)} (h : PE X e (rdV X G f)) : PE X e (rdK X G fun ρ => f ρ >>= fun r => truthC r.1.cn >>= fun c => .ok (c, r.2)) := by
  refine ⟨fun pins s σ H Q I ⟨ρ, rp, o⟩ => h.run pins s σ H Q I ⟨ρ, rp, (Out3.bind o).mono fun r _ q v H' st rv => ?_⟩⟩
  obtain ⟨sl, ρ1⟩ := r
  obtain ⟨c, e, q⟩ := (Out3.bind q).get (truthC_ne _)
  refine q v H' st ?_
  cases sl with
  | im d => exact truthD_v (.n rv) e
  | own ct =>
    obtain ⟨a, rfl, h1, _⟩ := rv
    cases ct with
    | lst ds => obtain ⟨xs, q1, q2⟩ := h1; exact truthD_v (.l (.of q1) q2) e
    | dct kvs => cases e
    | set xs => cases e
  | bor ct => exact False.elim rv
  | chg ct => exact False.elim rv
theorem slot_cn (rp : Rp G H σ ρ) {i : Nat} {c : Cn} (h : slotC ρ i = .ok c) : ∃ v, σ[i]? = some (some v) ∧ CnRd G.K H v c := by
  unfold slotC getS at h
  cases e : ρ[i]? with
  | none => rw [e] at h; cases h
  | some o => cases o with
    | none => rw [e] at h; cases h
    | some s =>
      rw [e] at h
      obtain ⟨v, hv, ok⟩ := rp.slot i s e
      have h : R.ok s.cn = R.ok c := h
      cases h
      refine ⟨v, hv, ?_⟩
      cases s with
      | im d => exact .n ok
      | own ct => obtain ⟨a, rfl, h1, _⟩ := ok; exact h1.rd.cn
      | chg ct => obtain ⟨a, rfl, h1, _⟩ := ok; exact h1.rd.cn
      | bor ct => obtain ⟨a, rfl, h1⟩ := ok; exact h1.cn
theorem slotC_ne (ρ0 : Sv) (i : Nat) (x : Ex) (ρ : Sv) : slotC ρ0 i ≠ .exc x ρ := by
  unfold slotC getS
  split <;> exact fun z => by cases z
theorem pk_var {i : Nat} (h : PE X e (tVar i)) : PE X e (rdK X G fun ρ => slotC ρ i >>= fun c => truthC c >>= fun b => .ok (b, ρ)) := by
  refine ⟨fun pins s σ H Q I ⟨ρ, rp, o⟩ => ?_⟩
  obtain ⟨c, e1, o⟩ := (Out3.bind o).get (slotC_ne _ _)
  obtain ⟨b, e2, o⟩ := (Out3.bind o).get (truthC_ne _)
  obtain ⟨v, hv, cn⟩ := slot_cn rp e1
  refine h.run pins s σ H Q I ⟨v, hv, o v H (.refl rp) ?_⟩
  cases c with
  | dat d => exact truthD_v cn e2
  | dct kvs => cases e2
  | set xs => cases e2
/-- a slot as it is read -/
theorem pc_slot {i : Nat} (h : PE X e (tVar i)) : PE X e (rdC X G fun ρ => slotC ρ i >>= fun c => .ok (c, ρ)) := by
  refine ⟨fun pins s σ H Q I ⟨ρ, rp, o⟩ => ?_⟩
  obtain ⟨c, e1, o⟩ := (Out3.bind o).get (slotC_ne _ _)
  obtain ⟨v, hv, cn⟩ := slot_cn rp e1
  exact h.run pins s σ H Q I ⟨v, hv, o v H (.refl rp) cn⟩
theorem pt_of {f : Sv → R (Bool × Sv)} (hK : X.K = G.K) (h : PE X e (rdK X G f)) (he : isTrue e X.env (eval e X.env) = (do let v ← eval e X.env; standAt e.pos; holding [v] (truthy v))) : PT X e (rdT X G f) := by
  refine ⟨fun pins s σ H Q I ⟨ρ, rp, o⟩ => ?_⟩
  refine isTrue_plain (thn (run_K h I rp o) fun u s1 ⟨r, v, H1, I1, r1, st, t, _, q⟩ => thn (truth_run hK I1 r1 t) fun c s2 ⟨e1, I2⟩ => ?_) he
  subst e1
  exact ⟨H1, I2, q H1 st⟩
theorem isTrue_cmp {op : CmpOp} {w : Sem Value} {env : PySem.Env} : isTrue (.Compare a [op] [b] pos) env w = (eval (.Compare a [op] [b] pos) env >>= fun c => holding [c] (truthy c)) := by
  rw [isTrue_Compare1, eval_Compare1]
  simp only [LawfulMonad.bind_assoc]
theorem pt_cmp1 {op : CmpOp} {f : Sv → R (Bool × Sv)} (hK : X.K = G.K) (h : PE X (.Compare a [op] [b] pos) (rdK X G f)) : PT X (.Compare a [op] [b] pos) (rdT X G f) := by
  refine ⟨fun pins s σ H Q I ⟨ρ, rp, o⟩ => ?_⟩
  rw [isTrue_cmp]
  refine wpAny_bind (thn (run_K h I rp o) fun u s1 ⟨r, v, H1, I1, r1, st, t, _, q⟩ => wpAny_holding (thn (truth_run hK I1 r1 t) fun c s2 ⟨e1, I2⟩ => ?_))
  subst e1
  exact ⟨H1, I2, q H1 st⟩
/-! ### and, or, not, if -/
theorem pt_not' {f : Sv → R (Bool × Sv)} (h : PT X a (rdT X G f)) : PT X (.UnaryOp .Not a pos) (rdT X G fun ρ => f ρ >>= fun r => .ok (!r.1, r.2)) :=
  ⟨fun pins s σ H Q I ⟨ρ, rp, o⟩ => (pt_not h).run pins s σ H Q I ⟨ρ, rp, (Out3.bind o).mono fun r _ q H' st => q H' st⟩⟩
theorem pd_not {f : Sv → R (Bool × Sv)} (hK : X.K = G.K) (h : PE X a (rdK X G f)) : PE X (.UnaryOp .Not a pos) (rdD X G fun ρ => f ρ >>= fun r => .ok (.bool (!r.1), r.2)) := by
  refine ⟨fun pins s σ H Q I ⟨ρ, rp, o⟩ => ?_⟩
  refine UnaryOp_ (thn (run_K h I rp (Out3.bind o)) fun u s1 ⟨r, v, H1, I1, r1, st, t, _, q⟩ => not_of (thn (truth_run hK I1 r1 t) fun c s2 ⟨e1, I2⟩ => ?_))
  subst e1
  exact ⟨.bl (!r.1), H1, I2, rfl, q _ _ st (.bl _)⟩
/-- and as a test: b is a BoolOp of the rest -/
theorem pt_and {rest : List Expr} {f g : Sv → R (Bool × Sv)} (ha : PT X a (rdT X G f)) (hb : PT X (.BoolOp .And (b :: rest) pos) (rdT X G g)) :
    PT X (.BoolOp .And (a :: b :: rest) pos) (rdT X G fun ρ => f ρ >>= fun r => if r.1 = true then g r.2 else .ok (false, r.2)) := by
  refine ⟨fun pins s σ H Q I ⟨ρ, rp, o⟩ => ?_⟩
  refine isTrue_and (thn (run_T ha I rp (Out3.bind o)) fun c s1 ⟨r, H1, I1, e1, st, _, q⟩ => ?_)
  subst e1
  obtain ⟨k, ρ1⟩ := r
  cases k with
  | true =>
    have q := Out3.later st q
    refine thn (run_T hb I1 st.rp q) fun c s2 ⟨r2, H2, I2, e2, st2, _, q2⟩ => ?_
    subst e2
    exact ⟨H2, I2, q2 H2 (st.trans st2)⟩
  | false => exact ⟨H1, I1, q H1 st⟩
theorem pt_and1 {f : Sv → R (Bool × Sv)} (ha : PT X a (rdT X G f)) : PT X (.BoolOp .And [a] pos) (rdT X G f) := (pw_and1 ha).pt
theorem pt_or {rest : List Expr} {f g : Sv → R (Bool × Sv)} (ha : PT X a (rdT X G f)) (hb : PT X (.BoolOp .Or (b :: rest) pos) (rdT X G g)) :
    PT X (.BoolOp .Or (a :: b :: rest) pos) (rdT X G fun ρ => f ρ >>= fun r => if r.1 = true then .ok (true, r.2) else g r.2) := by
  refine ⟨fun pins s σ H Q I ⟨ρ, rp, o⟩ => ?_⟩
  refine isTrue_or (thn (run_T ha I rp (Out3.bind o)) fun c s1 ⟨r, H1, I1, e1, st, _, q⟩ => ?_)
  subst e1
  obtain ⟨k, ρ1⟩ := r
  cases k with
  | false =>
    have q := Out3.later st q
    refine thn (run_T hb I1 st.rp q) fun c s2 ⟨r2, H2, I2, e2, st2, _, q2⟩ => ?_
    subst e2
    exact ⟨H2, I2, q2 H2 (st.trans st2)⟩
  | true => exact ⟨H1, I1, q H1 st⟩
theorem pt_or1 {f : Sv → R (Bool × Sv)} (ha : PT X a (rdT X G f)) : PT X (.BoolOp .Or [a] pos) (rdT X G f) := (pw_or1 ha).pt
/-- and as a value, its truth alone told -/
theorem pk_and {rest : List Expr} {f g : Sv → R (Bool × Sv)} (hK : X.K = G.K) (ha : PE X a (rdK X G f)) (hb : PE X (.BoolOp .And (b :: rest) pos) (rdK X G g)) :
    PE X (.BoolOp .And (a :: b :: rest) pos) (rdK X G fun ρ => f ρ >>= fun r => if r.1 = true then g r.2 else .ok (false, r.2)) := by
  refine ⟨fun pins s σ H Q I ⟨ρ, rp, o⟩ => ?_⟩
  refine BoolOp_and (thn (run_K ha I rp (Out3.bind o)) fun u s1 ⟨r, v, H1, I1, r1, st, t, _, q⟩ => thn (truth_run hK I1 r1 t) fun c s2 ⟨e1, I2⟩ => ?_)
  subst e1
  obtain ⟨k, ρ1⟩ := r
  cases k with
  | true =>
    refine thn (run_K hb I2 st.rp (Out3.later st q)) fun u s3 ⟨r2, w, H2, I3, r3, st2, t2, _, q2⟩ => ⟨w, H2, I3, r3, q2 w H2 (st.trans st2) t2⟩
  | false => exact ⟨v, H1, I2, r1, q v H1 st t⟩
theorem pk_or {rest : List Expr} {f g : Sv → R (Bool × Sv)} (hK : X.K = G.K) (ha : PE X a (rdK X G f)) (hb : PE X (.BoolOp .Or (b :: rest) pos) (rdK X G g)) :
    PE X (.BoolOp .Or (a :: b :: rest) pos) (rdK X G fun ρ => f ρ >>= fun r => if r.1 = true then .ok (true, r.2) else g r.2) := by
  refine ⟨fun pins s σ H Q I ⟨ρ, rp, o⟩ => ?_⟩
  refine BoolOp_or (thn (run_K ha I rp (Out3.bind o)) fun u s1 ⟨r, v, H1, I1, r1, st, t, _, q⟩ => thn (truth_run hK I1 r1 t) fun c s2 ⟨e1, I2⟩ => ?_)
  subst e1
  obtain ⟨k, ρ1⟩ := r
  cases k with
  | false =>
    refine thn (run_K hb I2 st.rp (Out3.later st q)) fun u s3 ⟨r2, w, H2, I3, r3, st2, t2, _, q2⟩ => ⟨w, H2, I3, r3, q2 w H2 (st.trans st2) t2⟩
  | true => exact ⟨v, H1, I2, r1, q v H1 st t⟩
/-- and as a value -/
theorem truthD_ne (d : D) (x : Ex) (ρ : Sv) : truthD d ≠ .exc x ρ := by
  unfold truthD
  split <;> exact fun z => by cases z
theorem pv_and {rest : List Expr} {f : Sv → R (D × Sv)} {g : Sv → R (Sl × Sv)} (hK : X.K = G.K) (ha : PE X a (rdD X G f)) (hb : PE X (.BoolOp .And (b :: rest) pos) (rdV X G g)) :
    PE X (.BoolOp .And (a :: b :: rest) pos) (rdV X G fun ρ => f ρ >>= fun r => truthD r.1 >>= fun c => if c = true then g r.2 else .ok (.im r.1, r.2)) := by
  refine ⟨fun pins s σ H Q I ⟨ρ, rp, o⟩ => ?_⟩
  refine BoolOp_and (thn (run_D ha I rp (Out3.bind o)) fun u s1 ⟨r, v, H1, I1, r1, st, dn, _, q⟩ => ?_)
  obtain ⟨c, e, q⟩ := (Out3.bind q).get (truthD_ne _)
  refine thn (truth_run hK I1 r1 (truthD_v (.n dn) e)) fun c' s2 ⟨e1, I2⟩ => ?_
  subst e1
  cases c' with
  | true => exact thn (run_V hb I2 st.rp (Out3.later st q)) fun u s3 ⟨r2, w, H2, I3, r3, st2, t2, _, q2⟩ => ⟨w, H2, I3, r3, q2 w H2 (st.trans st2) (t2.later st)⟩
  | false => exact ⟨v, H1, I2, r1, q v H1 st dn⟩
theorem pv_or {rest : List Expr} {f : Sv → R (D × Sv)} {g : Sv → R (Sl × Sv)} (hK : X.K = G.K) (ha : PE X a (rdD X G f)) (hb : PE X (.BoolOp .Or (b :: rest) pos) (rdV X G g)) :
    PE X (.BoolOp .Or (a :: b :: rest) pos) (rdV X G fun ρ => f ρ >>= fun r => truthD r.1 >>= fun c => if c = true then .ok (.im r.1, r.2) else g r.2) := by
  refine ⟨fun pins s σ H Q I ⟨ρ, rp, o⟩ => ?_⟩
  refine BoolOp_or (thn (run_D ha I rp (Out3.bind o)) fun u s1 ⟨r, v, H1, I1, r1, st, dn, _, q⟩ => ?_)
  obtain ⟨c, e, q⟩ := (Out3.bind q).get (truthD_ne _)
  refine thn (truth_run hK I1 r1 (truthD_v (.n dn) e)) fun c' s2 ⟨e1, I2⟩ => ?_
  subst e1
  cases c' with
  | false => exact thn (run_V hb I2 st.rp (Out3.later st q)) fun u s3 ⟨r2, w, H2, I3, r3, st2, t2, _, q2⟩ => ⟨w, H2, I3, r3, q2 w H2 (st.trans st2) (t2.later st)⟩
  | true => exact ⟨v, H1, I2, r1, q v H1 st dn⟩
theorem pv_ite {fc : Sv → R (Bool × Sv)} {f g : Sv → R (Sl × Sv)} (hc : PT X c (rdT X G fc)) (ha : PE X a (rdV X G f)) (hb : PE X b (rdV X G g)) :
    PE X (.IfExp c a b pos) (rdV X G fun ρ => fc ρ >>= fun r => if r.1 = true then f r.2 else g r.2) := by
  refine ⟨fun pins s σ H Q I ⟨ρ, rp, o⟩ => ?_⟩
  refine wpAny_IfExp (thn (run_T hc I rp (Out3.bind o)) fun k s1 ⟨r, H1, I1, e1, st, _, q⟩ => ?_)
  subst e1
  obtain ⟨k, ρ1⟩ := r
  cases k with
  | true => exact thn (run_V ha I1 st.rp (Out3.later st q)) fun u s3 ⟨r2, w, H2, I3, r3, st2, t2, _, q2⟩ => ⟨w, H2, I3, r3, q2 w H2 (st.trans st2) (t2.later st)⟩
  | false => exact thn (run_V hb I1 st.rp (Out3.later st q)) fun u s3 ⟨r2, w, H2, I3, r3, st2, t2, _, q2⟩ => ⟨w, H2, I3, r3, q2 w H2 (st.trans st2) (t2.later st)⟩
theorem pk_ite {fc : Sv → R (Bool × Sv)} {f g : Sv → R (Bool × Sv)} (hc : PT X c (rdT X G fc)) (ha : PE X a (rdK X G f)) (hb : PE X b (rdK X G g)) :
    PE X (.IfExp c a b pos) (rdK X G fun ρ => fc ρ >>= fun r => if r.1 = true then f r.2 else g r.2) := by
  refine ⟨fun pins s σ H Q I ⟨ρ, rp, o⟩ => ?_⟩
  refine wpAny_IfExp (thn (run_T hc I rp (Out3.bind o)) fun k s1 ⟨r, H1, I1, e1, st, _, q⟩ => ?_)
  subst e1
  obtain ⟨k, ρ1⟩ := r
  cases k with
  | true => exact thn (run_K ha I1 st.rp (Out3.later st q)) fun u s3 ⟨r2, w, H2, I3, r3, st2, t2, _, q2⟩ => ⟨w, H2, I3, r3, q2 w H2 (st.trans st2) t2⟩
  | false => exact thn (run_K hb I1 st.rp (Out3.later st q)) fun u s3 ⟨r2, w, H2, I3, r3, st2, t2, _, q2⟩ => ⟨w, H2, I3, r3, q2 w H2 (st.trans st2) t2⟩
theorem pt_ite {fc : Sv → R (Bool × Sv)} {f g : Sv → R (Bool × Sv)} (hc : PT X c (rdT X G fc)) (ha : PT X a (rdT X G f)) (hb : PT X b (rdT X G g)) :
    PT X (.IfExp c a b pos) (rdT X G fun ρ => fc ρ >>= fun r => if r.1 = true then f r.2 else g r.2) := by
  refine ⟨fun pins s σ H Q I ⟨ρ, rp, o⟩ => ?_⟩
  refine isTrue_IfExp (thn (run_T hc I rp (Out3.bind o)) fun k s1 ⟨r, H1, I1, e1, st, _, q⟩ => ?_)
  subst e1
  obtain ⟨k, ρ1⟩ := r
  cases k with
  | true => exact thn (run_T ha I1 st.rp (Out3.later st q)) fun c s3 ⟨r2, H2, I2, e2, st2, _, q2⟩ => by subst e2; exact ⟨H2, I2, q2 H2 (st.trans st2)⟩
  | false => exact thn (run_T hb I1 st.rp (Out3.later st q)) fun c s3 ⟨r2, H2, I2, e2, st2, _, q2⟩ => by subst e2; exact ⟨H2, I2, q2 H2 (st.trans st2)⟩
end
end Wk

set_option Elab.async false
set_option linter.all false
set_option maxRecDepth 100000
set_option maxHeartbeats 4000000
/-! displays, items, slices, lengths, conversions -/
namespace Wk
open PySem PySem.Spec PyProof.Rows L2

/-- values in turn -/
def rdL (X : Cx) (G : Gh) (f : Sv → R (List D × Sv)) : TA := fun σ H Q => ∃ ρ, Rp G H σ ρ ∧ Out3 X G σ ρ H (f ρ) fun r => ∀ vs H', Stp G σ ρ H r.2 H' → DnAll G.K H' vs r.1 → Q vs H'
section
variable {X : Cx} {G : Gh} {σ : L2.St} {ρ ρ1 ρ2 : Sv} {H H1 H2 : Hp} {e a b c : Expr} {es : List Expr} {pos : Pos}
theorem pl_nil : PA X [] (rdL X G fun ρ => .ok ([], ρ)) := ⟨fun pos pins s σ H Q I ⟨ρ, rp, o⟩ => pa_nil.run pos pins s σ H Q I (o [] H (.refl rp) .nil)⟩
theorem pl_cons {f : Sv → R (D × Sv)} {g : Sv → R (List D × Sv)} (ha : PE X e (rdD X G f)) (hr : PA X es (rdL X G g)) (hs : starEach (e :: es) X.env = (false, eval e X.env) :: starEach es X.env) :
    PA X (e :: es) (rdL X G fun ρ => f ρ >>= fun r => g r.2 >>= fun rs => .ok (r.1 :: rs.1, rs.2)) := by
  refine ⟨fun pos pins s σ H Q I ⟨ρ, rp, o⟩ => (pa_cons ha hr hs).run pos pins s σ H Q I ⟨ρ, rp, (Out3.bind o).mono fun r _ q v H1 st dn => ⟨r.2, st.rp, (Out3.later st (Out3.bind q)).mono fun rs _ q2 vs H2 st2 ds => ?_⟩⟩⟩
  exact q2 (v :: vs) H2 (st.trans st2) (.cons (dn.still st2.ext.still) ds)
theorem pd_tup {k : Nat} {f : Sv → R (List D × Sv)} (h : PA X es (rdL X G f)) (hl : ∀ ρ r, f ρ = .ok r → r.1.length ≤ sizeLine) : PE X (.Tuple es k pos) (rdD X G fun ρ => f ρ >>= fun r => .ok (.tuple r.1, r.2)) := by
  refine ⟨fun pins s σ H Q I ⟨ρ, rp, o⟩ => (pe_tup h).run pins s σ H Q I ⟨ρ, rp, (Out3.bind o).mono fun r e q vs H1 st ds => ⟨by rw [ds.length]; exact hl ρ r e, fun p hp => ?_⟩⟩⟩
  exact q _ _ (st.then_same (same_new hp)) (.tup (.of upd_same) (ds.still (.of_same (same_new hp))))
theorem fresh_own {a : Addr} {o : HO} {c : Ct} (rp : Rp G H1 σ ρ1) (st : Stp G σ ρ H ρ1 H1) (hn : H1 a = none) (h : CtAt G.K (upd H1 a o) a c) : RvOk G σ ρ H ρ1 (upd H1 a o) (.ref a) (.own c) := by
  refine ⟨a, rfl, h, ?_, .inl ?_, fun i hi z => rp.there hi z hn⟩
  · cases e : G.H0 a with
    | none => rfl
    | some u => exact absurd hn (rp.ext.dom a (by rw [e]; exact fun z => by cases z))
  · cases e : H a with
    | none => rfl
    | some u => exact absurd hn (st.ext.dom a (by rw [e]; exact fun z => by cases z))
theorem pv_lst {f : Sv → R (List D × Sv)} (h : PA X es (rdL X G f)) (hl : ∀ ρ r, f ρ = .ok r → r.1.length ≤ sizeLine) : PE X (.List es pos) (rdV X G fun ρ => f ρ >>= fun r => .ok (.own (.lst r.1), r.2)) := by
  refine ⟨fun pins s σ H Q I ⟨ρ, rp, o⟩ => (pe_lst h).run pins s σ H Q I ⟨ρ, rp, (Out3.bind o).mono fun r e q vs H1 st ds => ⟨by rw [ds.length]; exact hl ρ r e, fun p hp => ?_⟩⟩⟩
  exact q _ _ (st.then_same (same_new hp)) (fresh_own st.rp st hp ⟨vs, upd_same, ds.still (.of_same (same_new hp))⟩)

/-! ### items -/
theorem atI_dn {K : PySem.W.Frag} {vs : List V} {ds : List D} {i : Int} {d : D} (h : DnAll K H vs ds) (e : atI ds i = some d) : ∃ v, atI vs i = some v ∧ Dn K H v d := by
  unfold atI at e ⊢
  rw [h.length]
  obtain ⟨j, e1, e2⟩ := Option.bind_eq_some_iff.mp e
  obtain ⟨v, h1, h2⟩ := h.get e2
  exact ⟨v, by rw [e1]; exact h1, h2⟩
theorem idxD_ne (c : Cn) (k : D) (x : Ex) (ρ : Sv) : idxD c k ≠ .exc x ρ := by
  unfold idxD
  split
  · split <;> exact fun z => by cases z
  · split <;> exact fun z => by cases z
  · refine guard_some ?_
    split <;> exact fun z => by cases z
  · exact fun z => by cases z
theorem idx_ok {pins : List (Addr × Obj)} {s : Shared} {value slice : Expr} (hu : X.A.units + 1 < cLine) {x y : V} {v u : Value} {c : Cn} {k d : D} (I : Inv X pins σ H s) (rx : RelV x v) (ry : RelV y u) (hc : CnRd X.K H x c) (hk : Dn X.K H y k) (e : idxD c k = .ok d)
    (hs : subscripted slice false v u = operate [v, u] (getItem v u)) : wpAny (model X.prog X.w) X.A (subscriptTail value slice v u) (EP X pins σ fun z H' => H' = H ∧ Dn X.K H z d) X.xe s := by
  unfold idxD at e
  split at e
  · rename_i xs i
    split at e
    · rename_i w ew
      cases e
      obtain ⟨p, vs, rfl, h1, h2⟩ := Dr.list hc
      obtain rfl := hk.int_eq
      obtain ⟨z, ez, dz⟩ := atI_dn h2 ew
      exact ix_list value slice pins s σ H _ _ v u _ I rx ry ⟨p, vs, i, z, rfl, rfl, h1, ez, rfl, dz⟩ hs
    · cases e
  · rename_i xs i
    split at e
    · rename_i w ew
      cases e
      obtain ⟨p, vs, rfl, h1, h2⟩ := Dr.tuple hc
      obtain rfl := hk.int_eq
      obtain ⟨z, ez, dz⟩ := atI_dn h2 ew
      exact ix_tup value slice pins s σ H _ _ v u _ I rx ry ⟨p, vs, i, z, rfl, rfl, h1, ez, rfl, dz⟩ hs
    · cases e
  · rename_i kvs
    obtain ⟨g, e⟩ := guardR_ok e
    obtain ⟨p, xs, rfl, h1, h2⟩ := hc
    obtain ⟨kk, rfl⟩ := hk.key g
    rcases key_look hk h2 with ⟨q1, q2⟩ | ⟨w, dd, q1, q2, q3⟩
    · rw [q2] at e; cases e
    · rw [q2] at e; cases e
      obtain rfl : v = Value.ref p := rx
      have dg : DGet H p (kV kk) (some w) := .inl ⟨xs, kk, h1, rfl, q1.symm⟩
      unfold subscriptTail
      have hT := dict_typeIs I dg
      refine wpAny_bind ?_
      rw [getitemInPython_of_ne hT.not_modules]
      refine wpAny_bind (wpAny_specialOf hT PySem.F.slot_dict_getitem.lookup ?_)
      have fin : wpAny (model X.prog X.w) X.A (subscripted slice false (.ref p) u) (fun r s3 => wpAny (model X.prog X.w) X.A (letTemporaryGo value (.ref p) r >>= fun _ => pure r) (EP X pins σ fun z H' => H' = H ∧ Dn X.K H z d) X.xe s3) X.xe s := by
        rw [hs]
        refine wpAny_operating (d_getItem hu I dg ry fun w' s3 I3 rw' => wpAny_bind (wpAny_letTemporaryGo (wpAny_pure ⟨w, H, I3, rw', rfl, q3⟩)))
      first
        | exact wpAny_pure (wpAny_bind fin)
        | exact wpAny_bind (wpAny_pure (wpAny_bind fin))
        | exact wpAny_bind fin
  · cases e
/-- what a value is read as stays as it is while a further part runs -/
theorem rv_later {v : V} {sl : Sl} (h : RvOk G σ ρ H ρ1 H1 v sl) (st : Stp G σ ρ1 H1 ρ2 H2) : CnRd G.K H2 v sl.cn := by
  cases sl with
  | im d => exact .n (Dn.still st.ext.still h)
  | own ct =>
    obtain ⟨a, rfl, h1, _, _, h5⟩ := h
    refine CtRd.cn (CtAt.rd (h1.keep st.ext.still fun o e t => st.ext.keep a o e (fun ⟨i, q1, q2⟩ => h5 i (isCt_of_OM q1) q2) t))
  | bor ct => exact False.elim h
  | chg ct => exact False.elim h
theorem pd_idxE {fa : Sv → R (Sl × Sv)} {fi : Sv → R (D × Sv)} (hu : X.A.units + 1 < cLine) (hK : X.K = G.K) (ha : PE X a (rdV X G fa)) (hi : PE X b (rdD X G fi)) (hs : PlainIx b) :
    PE X (.Subscript a b pos) (rdD X G fun ρ => fa ρ >>= fun ra => fi ra.2 >>= fun ri => idxD ra.1.cn ri.1 >>= fun d => .ok (d, ri.2)) := by
  refine ⟨fun pins s σ H Q I ⟨ρ, rp, o⟩ => ?_⟩
  refine Subscript_ (thn (run_V ha I rp (Out3.bind o)) fun v s1 ⟨r, x, H1, I1, r1, st, rv, _, q⟩ => thn (run_D hi I1 st.rp ((Out3.bind q).later st)) fun u s2 ⟨r2, y, H2, I2, ry, st2, dn, _, q2⟩ => ?_)
  obtain ⟨d, e, q3⟩ := (Out3.bind q2).get (idxD_ne _ _)
  refine thn (idx_ok hu I2 r1 ry (hK ▸ rv_later rv st2) (hK ▸ dn) e (hs _ _)) fun z s3 ⟨w, H3, I3, r3, e1, dz⟩ => ?_
  subst e1
  exact ⟨w, H3, I3, r3, q3 w H3 (st.trans st2) (hK ▸ dz)⟩
/-- the slot i's value -/
theorem run_slot {pins : List (Addr × Obj)} {s : Shared} {i : Nat} {P : Cn → Prop} (h : PE X a (tVar i)) (I : Inv X pins σ H s) (rp : Rp G H σ ρ) (o : Out3 X G σ ρ H (slotC ρ i) P) :
    wpAny (model X.prog X.w) X.A (eval a X.env) (fun u s1 => ∃ (c : Cn) (v : V), Inv X pins σ H s1 ∧ RelV v u ∧ σ[i]? = some (some v) ∧ P c) X.xe s := by
  obtain ⟨c, e1, oc⟩ := o.get (slotC_ne _ _)
  obtain ⟨v, hv, cn⟩ := slot_cn rp e1
  exact thn (h.run pins s σ H (fun v' H' => v' = v ∧ H' = H) I ⟨v, hv, rfl, rfl⟩) fun u s1 ⟨v', H', I1, r1, e2, e3⟩ => by
    subst e2 e3
    exact ⟨c, v', I1, r1, hv, oc⟩
/-- .. as it is read behind further parts -/
theorem slot_now {i : Nat} {v : V} {ρ3 : Sv} {H3 : Hp} {P : Cn → Prop} (hv : σ[i]? = some (some v)) (rp : Rp G H3 σ ρ3) (o : Out3 X G σ ρ H (slotC ρ3 i) P) : ∃ c, CnRd G.K H3 v c ∧ P c := by
  obtain ⟨c, e1, o⟩ := o.get (slotC_ne _ _)
  obtain ⟨v', hv', cn⟩ := slot_cn rp e1
  rw [hv] at hv'
  cases hv'
  exact ⟨c, cn, o⟩
theorem pd_idxS {i : Nat} {fi : Sv → R (D × Sv)} (hu : X.A.units + 1 < cLine) (hK : X.K = G.K) (ha : PE X a (tVar i)) (hi : PE X b (rdD X G fi)) (hs : PlainIx b) :
    PE X (.Subscript a b pos) (rdD X G fun ρ => slotC ρ i >>= fun _ => fi ρ >>= fun ri => slotC ri.2 i >>= fun c => idxD c ri.1 >>= fun d => .ok (d, ri.2)) := by
  refine ⟨fun pins s σ H Q I ⟨ρ, rp, o⟩ => ?_⟩
  refine Subscript_ (thn (run_slot ha I rp (Out3.bind o)) fun v s1 ⟨_, x, I1, r1, hx, q⟩ => thn (run_D hi I1 rp (Out3.bind q)) fun u s2 ⟨r2, y, H2, I2, ry, st2, dn, _, q2⟩ => ?_)
  obtain ⟨c, cn, q2⟩ := slot_now hx st2.rp (Out3.bind q2)
  obtain ⟨d, e, q3⟩ := (Out3.bind q2).get (idxD_ne _ _)
  refine thn (idx_ok hu I2 r1 ry (hK ▸ cn) (hK ▸ dn) e (hs _ _)) fun z s3 ⟨w, H3, I3, r3, e1, dz⟩ => ?_
  subst e1
  exact ⟨w, H3, I3, r3, q3 w H3 st2 (hK ▸ dz)⟩

/-! ### slices -/
/-- a slice's end -/
def rdO (X : Cx) (G : Gh) (f : Sv → R (Option Int × Sv)) : TO := fun σ H Q => ∃ ρ, Rp G H σ ρ ∧ Out3 X G σ ρ H (f ρ) fun r => ∀ H', Stp G σ ρ H r.2 H' → Q r.1 H'
theorem po_no : PO X none (rdO X G fun ρ => .ok (none, ρ)) := ⟨fun pins s σ H Q I ⟨ρ, rp, o⟩ => po_none.run pins s σ H Q I (o H (.refl rp))⟩
theorem po_so {f : Sv → R (D × Sv)} (h : PE X e (rdD X G f)) : PO X (some e) (rdO X G fun ρ => f ρ >>= fun r => match r.1 with
    | .int i => .ok (some i, r.2)
    | _ => .bad) := by
  refine ⟨fun pins s σ H Q I ⟨ρ, rp, o⟩ => (po_some h).run pins s σ H Q I ⟨ρ, rp, (Out3.bind o).mono fun r _ q v H' st dn => ?_⟩⟩
  obtain ⟨d, ρ1⟩ := r
  cases d with
  | int i => exact ⟨i, dn.int_eq, q H' st⟩
  | _ => exact False.elim q
theorem run_O {lo : Option Expr} {pins : List (Addr × Obj)} {s : Shared} {f : Sv → R (Option Int × Sv)} {P : Option Int × Sv → Prop} (h : PO X lo (rdO X G f)) (I : Inv X pins σ H s) (rp : Rp G H σ ρ) (o : Out3 X G σ ρ H (f ρ) P) :
    wpAny (model X.prog X.w) X.A (evalPart lo X.env) (fun u s1 => ∃ (r : Option Int × Sv) (H1 : Hp), Inv X pins σ H1 s1 ∧ IsPart u r.1 ∧ Stp G σ ρ H r.2 H1 ∧ f ρ = .ok r ∧ P r) X.xe s :=
  thn (h.run pins s σ H (fun l H1 => ∃ r : Option Int × Sv, l = r.1 ∧ Stp G σ ρ H r.2 H1 ∧ f ρ = .ok r ∧ P r) I ⟨ρ, rp, o.mono fun r e q H1 st => ⟨r, rfl, st, e, q⟩⟩)
    fun u s1 ⟨l, H1, I1, p, r, e1, st, e, q⟩ => ⟨r, H1, I1, e1 ▸ p, st, e, q⟩
theorem sliceC_ne (c : Cn) (lo hi : Option Int) (x : Ex) (ρ : Sv) : sliceC c lo hi ≠ .exc x ρ := by
  unfold sliceC
  split <;> exact fun z => by cases z
/-- a new value that is no slot's -/
def NewV (K : PySem.W.Frag) (H H' : Hp) (z : V) : Sl → Prop
  | .im d => Dn K H' z d
  | .own c => ∃ a, z = .ref a ∧ H a = none ∧ CtAt K H' a c
  | _ => False
theorem NewV.rv {sl : Sl} {z : V} (st : Stp G σ ρ H ρ1 H1) (sm : Same H1 H2) (h : NewV G.K H1 H2 z sl) : RvOk G σ ρ H ρ1 H2 z sl := by
  cases sl with
  | im d => exact h
  | own c =>
    obtain ⟨a, rfl, hn, hc⟩ := h
    refine ⟨a, rfl, hc, ?_, .inl ?_, fun i hi z => st.rp.there hi z hn⟩
    · cases e : G.H0 a with
      | none => rfl
      | some u => exact absurd hn (st.rp.ext.dom a (by rw [e]; exact fun z => by cases z))
    · cases e : H a with
      | none => rfl
      | some u => exact absurd hn (st.ext.dom a (by rw [e]; exact fun z => by cases z))
  | bor c => exact False.elim h
  | chg c => exact False.elim h
theorem cut_all {vs : List V} {ds : List D} {lo hi : Option Int} (hl : vs.length = ds.length) (hw : HT.sIx vs.length 0 lo = 0 ∧ HT.sIx vs.length vs.length hi = vs.length) : cutD ds lo hi = ds := by
  unfold cutD
  rw [← hl, hw.1, hw.2, List.drop_zero, Nat.sub_zero, hl, List.take_length]
theorem slice_ok {pins : List (Addr × Obj)} {s : Shared} {x : V} {v vl vu : Value} {c : Cn} {lo hi : Option Int} {sl : Addr} {r : Sl} (I : Inv X pins σ H s) (rx : RelV x v) (hs : s.heap.IsSliceOf sl vl vu .none) (pl : IsPart vl lo) (pu : IsPart vu hi)
    (hc : CnRd X.K H x c) (e : sliceC c lo hi = .ok r) : ∃ T id, typeLookup (.type T) "__getitem__" = pure (some (.builtin id)) ∧ s.TypeIs v T ∧ wpAny (model X.prog X.w) X.A (getItem v (.ref sl)) (EP X pins σ fun z H' => Same H H' ∧ NewV X.K H H' z r) X.xe s := by
  unfold sliceC at e
  split at e
  · cases e
    obtain ⟨p, vs, rfl, h1, h2⟩ := Dr.list hc
    exact sl_list pins s σ H _ v vl vu lo hi sl _ I rx hs pl pu ⟨p, vs, rfl, h1, fun q hq => ⟨same_new hq, q, rfl, hq, _, upd_same, (h2.cut lo hi).still (.of_same (same_new hq))⟩⟩
  · cases e
    obtain ⟨p, vs, rfl, h1, h2⟩ := Dr.tuple hc
    refine sl_tupA pins s σ H _ v vl vu lo hi sl _ I rx hs pl pu ⟨p, vs, rfl, h1, fun hw => ⟨.refl _, ?_⟩, fun _ q hq => ⟨same_new hq, .tup (.of upd_same) ((h2.cut lo hi).still (.of_same (same_new hq)))⟩⟩
    simp only [NewV]
    rw [cut_all h2.length hw]
    exact .tup h1 h2
  · cases e
theorem slice_end {pins : List (Addr × Obj)} {s3 : Shared} {x : V} {v vl vu : Value} {c : Cn} {lo hi : Option Int} {l h : Option Expr} {p2 : Pos} {r : Sl} {Q : VK} (I3 : Inv X pins σ H s3) (r1 : RelV x v) (pl : IsPart vl lo) (pu : IsPart vu hi)
    (hc : CnRd X.K H x c) (e : sliceC c lo hi = .ok r) (hQ : ∀ z H', Same H H' → NewV X.K H H' z r → Q z H') :
    wpAny (model X.prog X.w) X.A (evalPart none X.env) (fun vs s4 => wpAny (model X.prog X.w) X.A (subscriptTail a (.Slice l h none p2) v (.ref s4.heap.objs.size)) (EP X pins σ Q) X.xe { s4 with heap := s4.heap.push { cls := .type "slice", data := .fields #[vl, vu, vs] } }) X.xe s3 := by
  rw [evalPart_none]
  refine wpAny_pure ?_
  have I4 : Inv X pins σ H { s3 with heap := s3.heap.push { cls := .type "slice", data := .fields #[vl, vu, .none] } } := I3.kept (t' := s3.toks) fun b ob q => Heap.get?_push_of_some _ q
  obtain ⟨T, id, hT, ht, hg⟩ := slice_ok (s := { s3 with heap := s3.heap.push { cls := .type "slice", data := .fields #[vl, vu, .none] } }) I4 r1 (Heap.IsSliceOf.new ..) pl pu hc e
  refine tail_any (ops := [.ref s3.heap.objs.size, v]) ht hT (thn hg fun u s' h => EP.imp h fun z H' q => hQ z H' q.1 q.2) (by with_unfolding_all rfl)
theorem pv_slcE {lo hi : Option Expr} {p2 : Pos} {fa : Sv → R (Sl × Sv)} {fl fh : Sv → R (Option Int × Sv)} (hK : X.K = G.K) (ha : PE X a (rdV X G fa)) (hl : PO X lo (rdO X G fl)) (hh : PO X hi (rdO X G fh)) :
    PE X (.Subscript a (.Slice lo hi none p2) pos) (rdV X G fun ρ => fa ρ >>= fun ra => fl ra.2 >>= fun rl => fh rl.2 >>= fun rh => sliceC ra.1.cn rl.1 rh.1 >>= fun s => .ok (s, rh.2)) := by
  refine ⟨fun pins s σ H Q I ⟨ρ, rp, o⟩ => ?_⟩
  refine Subscript_ (thn (run_V ha I rp (Out3.bind o)) fun v s1 ⟨ra, x, H1, I1, r1, st, rv, _, q⟩ => ?_)
  refine wpAny_Slice (thn (run_O hl I1 st.rp ((Out3.bind q).later st)) fun vl s2 ⟨rl, H2, I2, pl, st2, _, q2⟩ => thn (run_O hh I2 st2.rp ((Out3.bind q2).later (st.trans st2))) fun vu s3 ⟨rh, H3, I3, pu, st3, _, q3⟩ => ?_)
  obtain ⟨r, e, q4⟩ := (Out3.bind q3).get (sliceC_ne _ _ _)
  refine slice_end I3 r1 pl pu (hK ▸ rv_later rv (st2.trans st3)) e fun z H' sm nv => ?_
  exact q4 z H' ((st.trans (st2.trans st3)).then_same sm) (NewV.rv (st.trans (st2.trans st3)) sm (hK ▸ nv))
theorem pv_slcS {i : Nat} {lo hi : Option Expr} {p2 : Pos} {fl fh : Sv → R (Option Int × Sv)} (hK : X.K = G.K) (ha : PE X a (tVar i)) (hl : PO X lo (rdO X G fl)) (hh : PO X hi (rdO X G fh)) :
    PE X (.Subscript a (.Slice lo hi none p2) pos) (rdV X G fun ρ => slotC ρ i >>= fun _ => fl ρ >>= fun rl => fh rl.2 >>= fun rh => slotC rh.2 i >>= fun c => sliceC c rl.1 rh.1 >>= fun s => .ok (s, rh.2)) := by
  refine ⟨fun pins s σ H Q I ⟨ρ, rp, o⟩ => ?_⟩
  refine Subscript_ (thn (run_slot ha I rp (Out3.bind o)) fun v s1 ⟨_, x, I1, r1, hx, q⟩ => ?_)
  refine wpAny_Slice (thn (run_O hl I1 rp (Out3.bind q)) fun vl s2 ⟨rl, H2, I2, pl, st2, _, q2⟩ => thn (run_O hh I2 st2.rp ((Out3.bind q2).later st2)) fun vu s3 ⟨rh, H3, I3, pu, st3, _, q3⟩ => ?_)
  obtain ⟨c, cn, q3⟩ := slot_now hx st3.rp (Out3.bind q3)
  obtain ⟨r, e, q4⟩ := (Out3.bind q3).get (sliceC_ne _ _ _)
  refine slice_end I3 r1 pl pu (hK ▸ cn) e fun z H' sm nv => ?_
  exact q4 z H' ((st2.trans st3).then_same sm) (NewV.rv (st2.trans st3) sm (hK ▸ nv))

/-! ### calls of a built-in with one argument -/
/-- a call over what is read -/
def CalC (X : Cx) (f : Value) (g : Cn → R Sl) : Prop := ∀ (pins : List (Addr × Obj)) (s : Shared) (σ : L2.St) (H : Hp) (x : V) (u : Value) (c : Cn) (r : Sl), Inv X pins σ H s → RelV x u → CnRd X.K H x c → g c = .ok r →
  wpAny (model X.prog X.w) X.A (call f [u]) (EP X pins σ fun z H' => Same H H' ∧ NewV X.K H H' z r) X.xe s
theorem run_arg1 {pins : List (Addr × Obj)} {s : Shared} {P : Cn × Sv → Prop} {f : Sv → R (Cn × Sv)} (h : PE X e (rdC X G f)) (hs : starEach [e] X.env = (false, eval e X.env) :: starEach [] X.env) (I : Inv X pins σ H s) (rp : Rp G H σ ρ) (o : Out3 X G σ ρ H (f ρ) P) :
    wpAny (model X.prog X.w) X.A (spliced (backTo pos (starEach [e] X.env))) (fun us s1 => ∃ (r : Cn × Sv) (v : V) (u : Value) (H1 : Hp), us = [u] ∧ Inv X pins σ H1 s1 ∧ RelV v u ∧ Stp G σ ρ H r.2 H1 ∧ CnRd G.K H1 v r.1 ∧ P r) X.xe s := by
  rw [hs]
  show wpAny _ _ (spliced ((false, eval e X.env) :: backTo pos (starEach [] X.env))) _ _ s
  exact Calls.spliced_cons (thn (run_C h I rp o) fun u s1 ⟨r, v, H1, I1, r1, st, cn, _, q⟩ => Calls.spliced_nil ⟨r, v, u, H1, rfl, I1, r1, st, cn, q⟩)
theorem pv_callB {x : Str} {p : Pos} {id : String} {g : Cn → R Sl} {f : Sv → R (Cn × Sv)} (hK : X.K = G.K) (hc : CalC X (.builtin id) g) (ne : ∀ c x ρ, g c ≠ .exc x ρ) (hg : Gl X x) (hm : X.mg x = none) (hv : bootBuiltins x = some (.builtin id)) (ha : PE X e (rdC X G f))
    (hs : starEach [e] X.env = (false, eval e X.env) :: starEach [] X.env) (hn : x ≠ "__name__") (hdb : (x == ("__debug__" : Str)) = false) :
    PE X (.Call (.Name x p) [e] [] pos) (rdV X G fun ρ => f ρ >>= fun r => g r.1 >>= fun s => .ok (s, r.2)) := by
  refine ⟨fun pins s σ H Q I ⟨ρ, rp, o⟩ => ?_⟩
  refine wpAny_Call_Name_kw (ld_blt I hg hm hv ?_ hn hdb)
  refine PyProof.Rows.callWith_builtin1 (thn (run_arg1 ha hs I rp (Out3.bind o)) fun us s1 ⟨r, v, u, H1, e1, I1, r1, st, cn, q⟩ => ?_) hs (by rfl)
  subst e1
  obtain ⟨sl, e2, q2⟩ := (Out3.bind q).get (ne _)
  exact thn (hc pins s1 σ H1 v u r.1 sl I1 r1 (hK ▸ cn) e2) fun z s2 h => EP.imp h fun w H2 ⟨sm, nv⟩ => q2 w H2 (st.then_same sm) (NewV.rv st sm (hK ▸ nv))
theorem pv_callTy {x : Str} {p : Pos} {T : String} {g : Cn → R Sl} {f : Sv → R (Cn × Sv)} (hK : X.K = G.K) (hc : CalC X (.type T) g) (ne : ∀ c x ρ, g c ≠ .exc x ρ) (hg : Gl X x) (hm : X.mg x = none) (hv : bootBuiltins x = some (.type T)) (ha : PE X e (rdC X G f))
    (hs : starEach [e] X.env = (false, eval e X.env) :: starEach [] X.env) (hn : x ≠ "__name__") (hdb : (x == ("__debug__" : Str)) = false) :
    PE X (.Call (.Name x p) [e] [] pos) (rdV X G fun ρ => f ρ >>= fun r => g r.1 >>= fun s => .ok (s, r.2)) := by
  refine ⟨fun pins s σ H Q I ⟨ρ, rp, o⟩ => ?_⟩
  refine wpAny_Call_Name_kw (ld_blt I hg hm hv ?_ hn hdb)
  refine PyProof.Rows.callWith_type1 (thn (run_arg1 ha hs I rp (Out3.bind o)) fun us s1 ⟨r, v, u, H1, e1, I1, r1, st, cn, q⟩ => ?_) hs (by rfl)
  subst e1
  obtain ⟨sl, e2, q2⟩ := (Out3.bind q).get (ne _)
  exact thn (hc pins s1 σ H1 v u r.1 sl I1 r1 (hK ▸ cn) e2) fun z s2 h => EP.imp h fun w H2 ⟨sm, nv⟩ => q2 w H2 (st.then_same sm) (NewV.rv st sm (hK ▸ nv))
def lenS (c : Cn) : R Sl := lenC c >>= fun d => .ok (.im d)
theorem lenS_ne (c : Cn) (x : Ex) (ρ : Sv) : lenS c ≠ .exc x ρ := by
  unfold lenS lenC
  split <;> exact fun z => by cases z
theorem len_ok : CalC X (.builtin "len") lenS := by
  intro pins s σ H x u c r I rx hc e
  unfold lenS lenC at e
  split at e
  · cases e
    obtain ⟨p, vs, rfl, h1, h2⟩ := Dr.list hc
    exact thn (call_len_seq pins s σ H [_] [u] (fun z H' => z = .int vs.length ∧ H' = H) I (.cons rx .nil) ⟨p, vs, rfl, .inl h1, rfl, rfl⟩) fun z s2 h => EP.imp h fun w H2 ⟨e1, e2⟩ => by
      subst e1 e2
      rw [h2.length]
      exact ⟨.refl _, .int _⟩
  · cases e
    obtain ⟨p, vs, rfl, h1, h2⟩ := Dr.tuple hc
    exact thn (call_len_seq pins s σ H [_] [u] (fun z H' => z = .int vs.length ∧ H' = H) I (.cons rx .nil) ⟨p, vs, rfl, .inr h1, rfl, rfl⟩) fun z s2 h => EP.imp h fun w H2 ⟨e1, e2⟩ => by
      subst e1 e2
      rw [h2.length]
      exact ⟨.refl _, .int _⟩
  · cases e
    obtain ⟨rfl, so⟩ := Dr.str_eq hc
    exact thn (call_len_str pins s σ H [_] [u] (fun z H' => z = .int _ ∧ H' = H) I (.cons rx .nil) ⟨_, rfl, so.2, rfl, rfl⟩) fun z s2 h => EP.imp h fun w H2 ⟨e1, e2⟩ => by
      subst e1 e2
      exact ⟨.refl _, .int _⟩
  · cases e
    obtain ⟨p, xs, rfl, h1, h2⟩ := hc
    obtain rfl : u = Value.ref p := rx
    exact d_len I h1 fun t s' I' => ⟨.int xs.length, H, I', ⟨t, rfl⟩, .refl _, by rw [h2.length]; exact .int _⟩
  · cases e
end
end Wk

set_option Elab.async false
set_option linter.all false
set_option maxRecDepth 100000
set_option maxHeartbeats 4000000
/-! conversions, sorted, isinstance, dict.get -/
namespace Wk
open PySem PySem.Spec PyProof.Rows L2

section
variable {X : Cx} {G : Gh} {σ : L2.St} {ρ ρ1 ρ2 : Sv} {H H1 H2 : Hp} {e a b c : Expr} {es : List Expr} {pos : Pos}
theorem sortC_ne (c : Cn) (x : Ex) (ρ : Sv) : sortC c ≠ .exc x ρ := by
  unfold sortC
  split <;> first | exact guard_some fun z => by cases z | exact fun z => by cases z
theorem cvC_ne (k : Cv) (c : Cn) (x : Ex) (ρ : Sv) : cvC k c ≠ .exc x ρ := by
  cases k with
  | tup => show tupC c ≠ _; unfold tupC; split <;> exact fun z => by cases z
  | lst => show lstC c ≠ _; unfold lstC; split <;> exact fun z => by cases z
  | int => show intC c ≠ _; unfold intC; split <;> exact fun z => by cases z
  | srt =>
    show srtC c ≠ _
    unfold srtC
    intro z
    cases e : sortC c with
    | ok a => rw [e] at z; cases z
    | exc x2 ρ2 => exact sortC_ne _ _ _ e
    | bad => rw [e] at z; cases z
theorem tuple_ok : CalC X (.type "tuple") tupC := by
  intro pins s σ H x u c r I rx hc e
  unfold tupC at e
  split at e
  · cases e
    obtain ⟨p, vs, rfl, h1, h2⟩ := Dr.list hc
    exact thn (call_tuple_of pins s σ H [_] [u] (fun z H' => Same H H' ∧ ∃ a, z = .ref a ∧ SqT X.K H' a vs) I (.cons rx .nil) ⟨p, vs, rfl, .inl ⟨h1, fun l hl => ⟨same_new hl, l, rfl, .of upd_same⟩⟩⟩) fun z s2 h => EP.imp h fun w H2 ⟨sm, a, e1, q⟩ => by
      subst e1
      exact ⟨sm, .tup q (h2.still (.of_same sm))⟩
  · cases e
    obtain ⟨p, vs, rfl, h1, h2⟩ := Dr.tuple hc
    exact thn (call_tuple_of pins s σ H [_] [u] (fun z H' => z = .ref p ∧ H' = H) I (.cons rx .nil) ⟨p, vs, rfl, .inr ⟨h1, rfl, rfl⟩⟩) fun z s2 h => EP.imp h fun w H2 ⟨e1, e2⟩ => by
      subst e1 e2
      exact ⟨.refl _, .tup h1 h2⟩
  · cases e
theorem list_ok : CalC X (.type "list") lstC := by
  intro pins s σ H x u c r I rx hc e
  have fin : ∀ {p : Addr} {vs : List V} {ds : List D}, x = .ref p → (SqL X.K H p vs ∨ SqT X.K H p vs) → DnAll X.K H vs ds → wpAny (model X.prog X.w) X.A (call (.type "list") [u]) (EP X pins σ fun z H' => Same H H' ∧ NewV X.K H H' z (.own (.lst ds))) X.xe s := by
    intro p vs ds ex hq h2
    subst ex
    exact thn (call_list_of pins s σ H [_] [u] (fun z H' => Same H H' ∧ ∃ a, z = .ref a ∧ H a = none ∧ H' a = some (.lst vs)) I (.cons rx .nil) ⟨p, vs, rfl, hq, fun l hl => ⟨same_new hl, l, rfl, hl, upd_same⟩⟩) fun z s2 h => EP.imp h fun w H2 ⟨sm, a, e1, hn, q⟩ => by
      subst e1
      exact ⟨sm, a, rfl, hn, vs, q, h2.still (.of_same sm)⟩
  unfold lstC at e
  split at e
  · cases e
    obtain ⟨p, vs, rfl, h1, h2⟩ := Dr.list hc
    exact fin rfl (.inl h1) h2
  · cases e
    obtain ⟨p, vs, rfl, h1, h2⟩ := Dr.tuple hc
    exact fin rfl (.inr h1) h2
  · cases e
theorem int_ok : CalC X (.type "int") intC := by
  intro pins s σ H x u c r I rx hc e
  unfold intC at e
  split at e
  · cases e
    obtain rfl := Dr.int_eq hc
    exact thn (call_int1 pins s σ H [_] [u] (fun z H' => z = .int _ ∧ H' = H) I (.cons rx .nil) (.inl ⟨_, rfl, rfl, rfl⟩)) fun z s2 h => EP.imp h fun w H2 ⟨e1, e2⟩ => by
      subst e1 e2
      exact ⟨.refl _, .int _⟩
  · cases e

/-! ### sorted -/
theorem all_ints : ∀ {xs : List D}, xs.all isIntD = true → ∃ is : List Int, xs = is.map PyData.int
  | [], _ => ⟨[], rfl⟩
  | x :: xs, h => by
    rw [List.all_cons, Bool.and_eq_true] at h
    obtain ⟨is, e⟩ := all_ints h.2
    cases x with
    | int i => exact ⟨i :: is, by rw [e]; rfl⟩
    | _ => exact absurd h.1 (fun z => by cases z)
theorem DnAll.ints {K : PySem.W.Frag} : ∀ {vs : List V} {is : List Int}, DnAll K H vs (is.map PyData.int) → vs = is.map V.int
  | _, [], .nil => rfl
  | _, i :: is, .cons h t => by rw [h.int_eq, t.ints]; rfl
theorem DnAll.ofInts {K : PySem.W.Frag} : ∀ (is : List Int), DnAll K H (is.map V.int) (is.map PyData.int)
  | [] => .nil
  | i :: is => .cons (.int i) (.ofInts is)
def leI (a b : Int) : Bool := decide (a ≤ b)
theorem sorted_uniq {is js : List Int} (hp : js.Perm is) (hs : js.Pairwise (· ≤ ·)) : (is.map PyData.int).mergeSort leD = js.map PyData.int := by
  have e : (is.mergeSort leI).map PyData.int = (is.map PyData.int).mergeSort leD := List.map_mergeSort (fun a _ b _ => rfl)
  rw [← e]
  congr 1
  refine (List.Perm.eq_of_pairwise (le := fun a b => a ≤ b) (fun a b _ _ h1 h2 => by omega) ?_ hs ((List.mergeSort_perm is leI).trans hp.symm))
  refine (List.pairwise_mergeSort (le := leI) (fun a b c h1 h2 => ?_) (fun a b => ?_) is).imp fun {a b} h => of_decide_eq_true h
  · have := of_decide_eq_true h1; have := of_decide_eq_true h2; exact decide_eq_true (by omega)
  · unfold leI
    by_cases h : a ≤ b
    · simp [h]
    · simp [h]; omega
/-- sorted(x), by how x is collected -/
theorem sorted_run {pins : List (Addr × Obj)} {s : Shared} {u : Value} {ks : List Int} (I : Inv X pins σ H s) (hl : ks.length ≤ sizeLine)
    (hc : ∀ Q : List Value → Shared → Prop, (∀ (h' : Heap) (tk : Nat) (us : List Value), (∀ b o, s.heap.get? b = some o → h'.get? b = some o) → IntsAre us ks → Q us { s with heap := h', toks := tk }) → wpAny (model X.prog X.w) X.A.in1 (collect u) Q (fun e s' => X.xe e s') s) :
    wpAny (model X.prog X.w) X.A (call (.builtin "sorted") [u]) (EP X pins σ fun z H' => Same H H' ∧ NewV X.K H H' z (.own (.lst ((ks.map PyData.int).mergeSort leD)))) X.xe s := by
  refine Calls.call_function_entry PyProof.Rows.kind_sorted PyProof.Rows.plain_sorted PyProof.Rows.entry_sorted (PyProof.Rows.args_sorted1 _) ?_
  unfold Builtin.«sorted»
  refine wpAny_bind (m := checkCount "sorted" 1 1 _) (wpAny_pure ?_)
  refine wpAny_bind (hc _ fun h' tk us hk hI => ?_)
  have hul : us.length ≤ sizeLine := by rw [hI.length]; exact hl
  have I1 : Inv X pins σ H { s with heap := h', toks := tk } := I.kept hk
  refine wpAny_bind (wpAny_newList ?_ hul)
  have hoL : (h'.push (seqObj "list" us.toArray 0)).get? h'.objs.size = some (seqObj "list" us.toArray 0) := Heap.get?_push_size _ rfl
  show wpAny _ _ _ _ _ { s with heap := h'.push (seqObj "list" us.toArray 0), toks := tk }
  refine wpAny_bind (wpAny_holding (wpAny_call_entry PyProof.Rows.slot_list_sort ⟨_, hoL, rfl⟩ PyProof.Rows.entry_list_sort
    (SrtO.list_sort_ord (s := { s with heap := h'.push (seqObj "list" us.toArray 0), toks := tk }) SrtO.swo_int hoL hul (fun h2 => SrtO.ints_sortable hI h2) fun out g1 g2 => ⟨_, rfl, ?_⟩) (PyProof.Rows.args_list_sort _)))
  obtain ⟨k1, k2, k3⟩ := SrtO.ints_out hI g1 g2
  obtain ⟨e', he'⟩ := PyProof.Rows.sortedHeap_at (vs := us) (out := out.toArray) hoL
  have hlen : ((out.map SrtO.iv).map V.int).length ≤ sizeLine := by
    rw [List.length_map, k2.length_eq]
    exact hl
  have hn := I1.hok.fresh (Nat.le_refl h'.objs.size)
  refine wpAny_pure ⟨_, rfl, .ref h'.objs.size, upd H h'.objs.size (.lst ((out.map SrtO.iv).map V.int)), I1.laid (t' := tk) (fun b u e => ?_) (Nat.le_refl _)
    (show ObjOk X.prog X.w _ _ _ (.lst _) from ⟨hlen, out, e', vals_of_ints k1, he'⟩), rfl, same_new hn, _, rfl, hn, _, upd_same, ?_⟩
  · have hb : b < h'.objs.size := Heap.lt_size e
    rw [PyProof.Rows.sortedHeap_old (Nat.ne_of_lt hb) (by rw [size_push']; exact Nat.lt_succ_of_lt hb)]
    exact Heap.get?_push_of_some _ e
  · rw [sorted_uniq k2 k3]
    exact .ofInts _
theorem sorted_ok (hcalm : X.calm = true) : CalC X (.builtin "sorted") srtC := by
  intro pins s σ H x u c r I rx hc e
  unfold srtC sortC at e
  split at e
  · obtain ⟨ys, e1, e2⟩ := R.map_ok e
    obtain ⟨g, e1⟩ := guardR_ok e1
    cases e1
    subst e2
    obtain ⟨is, rfl⟩ := all_ints g
    obtain ⟨p, vs, rfl, h1, h2⟩ := Dr.list hc
    obtain rfl := h2.ints
    obtain ⟨its, rv, ⟨o, n, ho, hcl, hdn, hd⟩, hz⟩ := I.list h1
    obtain rfl : u = Value.ref p := rx
    refine sorted_run I (by simpa using hz) fun Q hQ => wpAny_collect_seq p (.inl rfl) ho hcl hd (fun h' hk => ?_) (by rw [List.size_toArray, ← rv.length]; exact hz)
    exact hQ h' s.toks _ hk rv.ints
  · obtain ⟨ys, e1, e2⟩ := R.map_ok e
    obtain ⟨g, e1⟩ := guardR_ok e1
    cases e1
    subst e2
    obtain ⟨is, rfl⟩ := all_ints g
    obtain ⟨p, vs, rfl, h1, h2⟩ := Dr.tuple hc
    obtain rfl := h2.ints
    obtain ⟨its, rv, ⟨o, ho, hcl, n, hd⟩, hz⟩ := I.tuple h1
    obtain rfl : u = Value.ref p := rx
    refine sorted_run I (by simpa using hz) fun Q hQ => wpAny_collect_seq p (.inr rfl) ho hcl hd (fun h' hk => ?_) (by rw [List.size_toArray, ← rv.length]; exact hz)
    exact hQ h' s.toks _ hk rv.ints
  · rename_i kvs
    obtain ⟨ys, e1, e2⟩ := R.map_ok e
    obtain ⟨g, e1⟩ := guardR_ok e1
    cases e1
    subst e2
    obtain ⟨is, es⟩ := all_ints g
    obtain ⟨p, xs, rfl, h1, h2⟩ := hc
    obtain rfl : u = Value.ref p := rx
    rw [es]
    have hkeys0 : xs.map (·.1) = is.map Sum.inl := by
      have q := h2.keys
      rw [es] at q
      have q := q.ints
      have : ∀ {xs : List (Key × V)} {is : List Int}, xs.map (fun p => kV p.1) = is.map V.int → xs.map (·.1) = is.map Sum.inl := by
        intro xs
        induction xs with
        | nil => intro is h; cases is with
          | nil => rfl
          | cons => cases h
        | cons x xs ih => intro is h; cases is with
          | nil => cases h
          | cons i is =>
            rw [List.map_cons, List.map_cons] at h ⊢
            obtain ⟨q1, q2⟩ := List.cons.inj h
            rw [ih q2]
            congr 1
            cases ek : x.1 with
            | inl j => rw [ek] at q1; cases q1; rfl
            | inr j => rw [ek] at q1; cases q1
      exact this q
    obtain ⟨z, lo, vs, rel, dd⟩ := dk_rd I.hok h1
    obtain ⟨ep, hat⟩ := dd.dictAt
    have hkeys : vs.map (·.1) = is.map Sum.inl := rel.keys.symm.trans hkeys0
    have hl : vs.length = is.length := by
      have e := congrArg List.length hkeys
      rw [List.length_map, List.length_map] at e
      exact e
    have hl0 : xs.length = is.length := by
      have e := congrArg List.length hkeys0
      rw [List.length_map, List.length_map] at e
      exact e
    have h16 : vs.length ≤ sizeLine := by rw [hl, ← hl0]; exact z
    refine sorted_run I (by rw [← hl]; exact h16) fun Q hQ => ?_
    refine PySem.W.kdu_collect (A := X.A.in1) (PySem.W.kdl_dict (knd := mixKind X.prog X.w) (kvs := vs) (ep := ep) lo) (I.ok.hd hcalm) hat h16 fun h' tk acc hk hacc => ?_
    have hal : acc.toList.length = is.length := by rw [Array.length_toList, hacc.1, hl]
    refine hQ h' tk _ hk (ints_each hal fun j v e => ?_)
    obtain ⟨k, x, e1, e2⟩ := hacc.2 j v (by rw [← Array.getElem?_toList]; exact e)
    have e3 : (vs.map (·.1))[j]? = some k := by rw [List.getElem?_map, e1]; rfl
    rw [hkeys, List.getElem?_map] at e3
    cases e4 : is[j]? with
    | none => rw [e4] at e3; cases e3
    | some y =>
      rw [e4] at e3
      have e5 : Sum.inl y = k := Option.some.inj e3
      subst e5
      rcases keyIs_shape (show keyIs (Sum.inl y) v = true from e2) with ⟨i, t, ek, ev⟩ | ⟨z, t, ek, ev⟩
      · cases ek
        exact ⟨y, t, rfl, ev⟩
      · cases ek
  · cases e

/-! ### isinstance -/
def tyName : Ty → String
  | .int => "int"
  | .bool => "bool"
  | .tup => "tuple"
  | .str => "str"
  | .lst => "list"
def dName : D → String
  | .none => "NoneType"
  | .bool _ => "bool"
  | .int _ => "int"
  | .str _ => "str"
  | .list _ => "list"
  | .tuple _ => "tuple"
  | .dict _ => "dict"
theorem ty_dr {K : PySem.W.Frag} {v : V} {d : D} (h : Dr K H v d) : TyX K H v (.type (dName d)) := by
  cases h with
  | l h _ =>
    rcases h with (h | ⟨o, h⟩) | ⟨o, its, n, h, hc, _⟩
    · exact .base (.lst h)
    · exact .base (.frz h)
    · exact .kList h hc
  | n h =>
  cases h with
  | non => exact .base .non
  | bl b => exact .base (.bl b)
  | int i => exact .base (.int i)
  | str x _ => exact .base (.str x)
  | lst h _ =>
    rcases h with ⟨o, h⟩ | ⟨o, its, n, h, hc, _⟩
    · exact .base (.frz h)
    · exact .kList h hc
  | tup h _ =>
    rcases h with (h | ⟨o, h⟩) | ⟨o, its, n, h, hc, _⟩
    · exact .base (.tup h)
    · exact .fTuple h
    · exact .kTuple h hc
theorem kit_is (d : D) (t : Ty) (hd : ∀ kvs, d ≠ .dict kvs) : kitB (dName d) (tyName t) = some (isTy t d) := by
  cases d with
  | dict kvs => exact absurd rfl (hd kvs)
  | none => cases t <;> (simp only [dName, tyName, isTy]; decide +kernel)
  | bool b => cases t <;> (simp only [dName, tyName, isTy]; decide +kernel)
  | int b => cases t <;> (simp only [dName, tyName, isTy]; decide +kernel)
  | str b => cases t <;> (simp only [dName, tyName, isTy]; decide +kernel)
  | list b => cases t <;> (simp only [dName, tyName, isTy]; decide +kernel)
  | tuple b => cases t <;> (simp only [dName, tyName, isTy]; decide +kernel)
/-! ### what is seen of the text -/
def notStar : Expr → Bool
  | .Starred _ _ => false
  | _ => true
theorem star_one {env : PySem.Env} (h : notStar e = true) : starEach (e :: es) env = (false, eval e env) :: starEach es env := by
  cases e <;> first | rfl | cases h
def plainBase : Expr → Bool
  | .Call (.Name _ _) [] [] _ => false
  | _ => true
theorem base_plain {env : PySem.Env} {m : Str} {w : Sem Value} (h : plainBase e = true) : attributeBase e m env w = w := by
  unfold attributeBase
  split
  · cases h
  · rfl
theorem isiC_ne (t : Ty) (c : Cn) (x : Ex) (ρ : Sv) : isiC t c ≠ .exc x ρ := by
  unfold isiC
  split <;> exact fun z => by cases z
theorem pd_isi {f : Sv → R (Cn × Sv)} {t : Ty} {x y : Str} {p q : Pos} (hK : X.K = G.K) (ha : PE X a (rdC X G f)) (hs : notStar a = true) (hx : x = "isinstance") (hy : y = tyName t) (hg : Gl X x) (hm : X.mg x = none) (hg2 : Gl X y) (hm2 : X.mg y = none) :
    PE X (.Call (.Name x p) [a, .Name y q] [] pos) (rdD X G fun ρ => f ρ >>= fun r => isiC t r.1 >>= fun b => .ok (.bool b, r.2)) := by
  have hT : PE X (.Name y q) (fun σ H Q => Q (.ty (tyName t)) H) := by
    refine ⟨fun pins s σ H Q I h => ?_⟩
    have e0 : bootBuiltins y = some (.type (tyName t)) ∧ y ≠ "__name__" ∧ (y == ("__debug__" : Str)) = false := by
      rw [hy]
      cases t <;> exact ⟨by decide +kernel, by decide +kernel, by decide +kernel⟩
    exact ld_blt I hg2 hm2 e0.1 ⟨.ty (tyName t), H, I, rfl, h⟩ e0.2.1 e0.2.2
  subst hx
  refine ⟨fun pins s σ H Q I ⟨ρ, rp, o⟩ => ?_⟩
  refine (pe_callB (p := p) (pos := pos) call_isi hg hm (by decide +kernel) (pa_cons ha (pa_cons hT pa_nil (by rfl)) (star_one hs)) (by decide +kernel) (by decide +kernel) (star_one hs) (by rfl)).run pins s σ H Q I ⟨ρ, rp, (Out3.bind o).mono fun r _ q v H' st cn => ?_⟩
  obtain ⟨b, e1, q2⟩ := (Out3.bind q).get (isiC_ne t r.1)
  have : ∀ c, isiC t c = .ok b → ∃ d, c = .dat d ∧ (∀ kvs, d ≠ .dict kvs) ∧ isTy t d = b := by
    intro c e1
    unfold isiC at e1
    split at e1
    · cases e1
    · rename_i d h1
      cases e1
      exact ⟨d, rfl, h1, rfl⟩
    · cases e1
  obtain ⟨d, e2, hd, e3⟩ := this _ e1
  rw [e2] at cn
  exact ⟨v, .ty (tyName t), .type (dName d), .type (tyName t), b, rfl, .ty _, ty_dr (hK ▸ cn), kit_ty (by rw [kit_is d t hd, e3]), q2 _ H' st (.bl b)⟩

/-! ### dict.get -/
theorem getD1_ne (c : Cn) (k : D) (x : Ex) (ρ : Sv) : getD1 c k ≠ .exc x ρ := by
  unfold getD1
  split
  · exact guard_some fun z => by cases z
  · exact fun z => by cases z
theorem getD2_ne (c : Cn) (k d : D) (x : Ex) (ρ : Sv) : getD2 c k d ≠ .exc x ρ := by
  unfold getD2
  split
  · exact guard_some fun z => by cases z
  · exact fun z => by cases z
theorem get1_ok {K : PySem.W.Frag} {x y : V} {c : Cn} {k d : D} (hc : CnRd K H x c) (hk : Dn K H y k) (e : getD1 c k = .ok d) : ∃ p o, x = .ref p ∧ DGet H p y o ∧ Dn K H (o.getD .non) d := by
  unfold getD1 at e
  split at e
  · obtain ⟨g, e⟩ := guardR_ok e
    cases e
    obtain ⟨p, xs, rfl, h1, h2⟩ := hc
    obtain ⟨kk, rfl⟩ := hk.key g
    refine ⟨p, valV xs kk, rfl, .inl ⟨xs, kk, h1, rfl, rfl⟩, ?_⟩
    rcases key_look hk h2 with ⟨q1, q2⟩ | ⟨w, dd, q1, q2, q3⟩
    · rw [q1, q2]; exact .non
    · rw [q1, q2]; exact q3
  · cases e
theorem get2_ok {K : PySem.W.Frag} {x y z : V} {c : Cn} {k d0 d : D} (hc : CnRd K H x c) (hk : Dn K H y k) (hz : Dn K H z d0) (e : getD2 c k d0 = .ok d) : ∃ p o, x = .ref p ∧ DGet H p y o ∧ Dn K H (o.getD z) d := by
  unfold getD2 at e
  split at e
  · obtain ⟨g, e⟩ := guardR_ok e
    cases e
    obtain ⟨p, xs, rfl, h1, h2⟩ := hc
    obtain ⟨kk, rfl⟩ := hk.key g
    refine ⟨p, valV xs kk, rfl, .inl ⟨xs, kk, h1, rfl, rfl⟩, ?_⟩
    rcases key_look hk h2 with ⟨q1, q2⟩ | ⟨w, dd, q1, q2, q3⟩
    · rw [q1, q2]; exact hz
    · rw [q1, q2]; exact q3
  · cases e
theorem isD_cn {K : PySem.W.Frag} {x : V} {c : Cn} (hc : CnRd K H x c) (h : isDctC c = true) : ∃ p, x = .ref p ∧ IsD H p := by
  cases c with
  | dct kvs => obtain ⟨p, xs, rfl, h1, h2⟩ := hc; exact ⟨p, rfl, .inl ⟨xs, h1⟩⟩
  | dat d => cases h
  | set xs => cases h
theorem m1_of {m : Str} {apos cpos : Pos} (h1 : plainBase a = true) (h2 : notStar e = true) (h3 : (apos.endLine == cpos.line) = true) : M1 X a m apos e cpos where
  base := base_plain h1
  few := by rw [star_one h2]; rfl
  line := h3
  trees := by rw [star_one h2]; rfl
theorem m2_of {m : Str} {apos cpos : Pos} {e2 : Expr} (h1 : plainBase a = true) (h2 : notStar e = true) (h4 : notStar e2 = true) (h3 : (apos.endLine == cpos.line) = true) : M2 X a m apos e e2 cpos where
  base := base_plain h1
  few := by rw [star_one h2, star_one h4]; rfl
  line := h3
  trees := by rw [star_one h2, star_one h4]; rfl
/-- the slot i, as what a method is asked of -/
def rdS (X : Cx) (G : Gh) (i : Nat) : TE := fun σ H Q => ∃ ρ, Rp G H σ ρ ∧ Out3 X G σ ρ H (slotC ρ i) fun c => ∀ v, σ[i]? = some (some v) → CnRd G.K H v c → Q v H
theorem ps_of {i : Nat} (h : PE X a (tVar i)) : PE X a (rdS X G i) := by
  refine ⟨fun pins s σ H Q I ⟨ρ, rp, o⟩ => ?_⟩
  obtain ⟨c, e1, o⟩ := o.get (slotC_ne _ _)
  obtain ⟨v, hv, cn⟩ := slot_cn rp e1
  exact h.run pins s σ H Q I ⟨v, hv, o v hv cn⟩
theorem pd_getE {fa : Sv → R (Sl × Sv)} {fk : Sv → R (D × Sv)} {m : Str} {apos : Pos} (hu : X.A.units + 1 < cLine) (hK : X.K = G.K) (ha : PE X a (rdV X G fa)) (hk : PE X b (rdD X G fk)) (hm : M1 X a "get" apos b pos) :
    PE X (.Call (.Attribute a "get" apos) [b] [] pos) (rdD X G fun ρ => fa ρ >>= fun ra => guardR (isDctC ra.1.cn) (fk ra.2 >>= fun rk => getD1 ra.1.cn rk.1 >>= fun d => .ok (d, rk.2))) := by
  refine ⟨fun pins s σ H Q I ⟨ρ, rp, o⟩ => (pe_dget1 hu ha hk hm).run pins s σ H Q I ⟨ρ, rp, (Out3.bind o).mono fun ra _ q v H1 st rv => ?_⟩⟩
  obtain ⟨g, q⟩ := Out3.guard q
  obtain ⟨p, rfl, hd⟩ := isD_cn (rv_later rv (.refl st.rp)) g
  refine ⟨p, rfl, hd, ra.2, st.rp, (Out3.later st (Out3.bind q)).mono fun rk _ q y H2 st2 dk => ?_⟩
  obtain ⟨d, e1, q⟩ := (Out3.bind q).get (getD1_ne _ _)
  obtain ⟨p', w, e2, dg, dd⟩ := get1_ok (rv_later rv st2) dk e1
  cases e2
  exact ⟨w, dg, q _ H2 (st.trans st2) dd⟩
theorem pd_getS {i : Nat} {fk : Sv → R (D × Sv)} {m : Str} {apos : Pos} (hu : X.A.units + 1 < cLine) (hK : X.K = G.K) (ha : PE X a (tVar i)) (hk : PE X b (rdD X G fk)) (hm : M1 X a "get" apos b pos) :
    PE X (.Call (.Attribute a "get" apos) [b] [] pos) (rdD X G fun ρ => slotC ρ i >>= fun c0 => guardR (isDctC c0) (fk ρ >>= fun rk => slotC rk.2 i >>= fun c => getD1 c rk.1 >>= fun d => .ok (d, rk.2))) := by
  refine ⟨fun pins s σ H Q I ⟨ρ, rp, o⟩ => (pe_dget1 hu (ps_of (G := G) ha) hk hm).run pins s σ H Q I ⟨ρ, rp, (Out3.bind o).mono fun c0 _ q v hv cn => ?_⟩⟩
  obtain ⟨g, q⟩ := Out3.guard q
  obtain ⟨p, rfl, hd⟩ := isD_cn cn g
  refine ⟨p, rfl, hd, ρ, rp, (Out3.bind q).mono fun rk _ q y H2 st2 dk => ?_⟩
  obtain ⟨c, cn2, q⟩ := slot_now hv st2.rp (Out3.bind q)
  obtain ⟨d, e1, q⟩ := (Out3.bind q).get (getD1_ne _ _)
  obtain ⟨p', w, e2, dg, dd⟩ := get1_ok cn2 dk e1
  cases e2
  exact ⟨w, dg, q _ H2 st2 dd⟩
theorem pd_get2E {fa : Sv → R (Sl × Sv)} {fk fd : Sv → R (D × Sv)} {m : Str} {apos : Pos} (hu : X.A.units + 1 < cLine) (hK : X.K = G.K) (ha : PE X a (rdV X G fa)) (hk : PE X b (rdD X G fk)) (hd : PE X c (rdD X G fd)) (hm : M2 X a "get" apos b c pos) :
    PE X (.Call (.Attribute a "get" apos) [b, c] [] pos) (rdD X G fun ρ => fa ρ >>= fun ra => guardR (isDctC ra.1.cn) (fk ra.2 >>= fun rk => fd rk.2 >>= fun rd => getD2 ra.1.cn rk.1 rd.1 >>= fun d => .ok (d, rd.2))) := by
  refine ⟨fun pins s σ H Q I ⟨ρ, rp, o⟩ => (pe_dget2 hu ha hk hd hm).run pins s σ H Q I ⟨ρ, rp, (Out3.bind o).mono fun ra _ q v H1 st rv => ?_⟩⟩
  obtain ⟨g, q⟩ := Out3.guard q
  obtain ⟨p, rfl, hd⟩ := isD_cn (rv_later rv (.refl st.rp)) g
  refine ⟨p, rfl, hd, ra.2, st.rp, (Out3.later st (Out3.bind q)).mono fun rk _ q y H2 st2 dk => ⟨rk.2, st2.rp, (Out3.later st2 (Out3.later st (Out3.bind q))).mono fun rd _ q z H3 st3 dz => ?_⟩⟩
  obtain ⟨d, e1, q⟩ := (Out3.bind q).get (getD2_ne _ _ _)
  obtain ⟨p', w, e2, dg, dd⟩ := get2_ok (rv_later rv (st2.trans st3)) (dk.still st3.ext.still) dz e1
  cases e2
  exact ⟨w, dg, q _ H3 (st.trans (st2.trans st3)) dd⟩
theorem pd_get2S {i : Nat} {fk fd : Sv → R (D × Sv)} {m : Str} {apos : Pos} (hu : X.A.units + 1 < cLine) (hK : X.K = G.K) (ha : PE X a (tVar i)) (hk : PE X b (rdD X G fk)) (hd : PE X c (rdD X G fd)) (hm : M2 X a "get" apos b c pos) :
    PE X (.Call (.Attribute a "get" apos) [b, c] [] pos) (rdD X G fun ρ => slotC ρ i >>= fun c0 => guardR (isDctC c0) (fk ρ >>= fun rk => fd rk.2 >>= fun rd => slotC rd.2 i >>= fun c => getD2 c rk.1 rd.1 >>= fun d => .ok (d, rd.2))) := by
  refine ⟨fun pins s σ H Q I ⟨ρ, rp, o⟩ => (pe_dget2 hu (ps_of (G := G) ha) hk hd hm).run pins s σ H Q I ⟨ρ, rp, (Out3.bind o).mono fun c0 _ q v hv cn => ?_⟩⟩
  obtain ⟨g, q⟩ := Out3.guard q
  obtain ⟨p, rfl, hd⟩ := isD_cn cn g
  refine ⟨p, rfl, hd, ρ, rp, (Out3.bind q).mono fun rk _ q y H2 st2 dk => ⟨rk.2, st2.rp, (Out3.later st2 (Out3.bind q)).mono fun rd _ q z H3 st3 dz => ?_⟩⟩
  obtain ⟨c, cn2, q⟩ := slot_now hv st3.rp (Out3.bind q)
  obtain ⟨d, e1, q⟩ := (Out3.bind q).get (getD2_ne _ _ _)
  obtain ⟨p', w, e2, dg, dd⟩ := get2_ok cn2 (dk.still st3.ext.still) dz e1
  cases e2
  exact ⟨w, dg, q _ H3 (st2.trans st3) dd⟩
end
end Wk

set_option Elab.async false
set_option linter.all false
set_option maxRecDepth 100000
set_option maxHeartbeats 4000000
/-! arguments and calls of defs -/
namespace Wk
open PySem PySem.Spec PyProof.Rows L2

section
variable {X : Cx} {G : Gh} {σ : L2.St} {ρ ρ1 ρ2 : Sv} {H H1 H2 : Hp} {e a b c : Expr} {es : List Expr} {pos : Pos}
theorem Stp.ct (s : Stp G σ ρ H ρ1 H1) {i : Nat} (h : isCt ρ1[i]? = true) : isCt ρ[i]? = true := by
  cases e : ρ1[i]? with
  | none => rw [e] at h; cases h
  | some o => cases o with
    | none => rw [e] at h; cases h
    | some sl => cases sl with
      | im d => rw [e] at h; cases h
      | own c => exact isCt_of_OM (s.sub i (by rw [e]; rfl))
      | chg c => exact isCt_of_OM (s.sub i (by rw [e]; rfl))
      | bor c => rw [s.bc.bor i c e]; rfl

/-! ### arguments -/
/-- an argument that has been evaluated -/
def ArgV (G : Gh) (σ : L2.St) (ρ : Sv) (H : Hp) (v : V) : Sl → Prop
  | .im d => Dn G.K H v d
  | .own c => ∃ a, v = .ref a ∧ CtAt G.K H a c ∧ ∀ i : Nat, isCt ρ[i]? = true → σ[i]? ≠ some (some (V.ref a))
  | _ => False
def ArgOk (G : Gh) (σ : L2.St) (ρ : Sv) (H : Hp) : As → List Sl → List V → Prop
  | .nil, [], [] => True
  | .e _ as, s :: ss, v :: vs => ArgV G σ ρ H v s ∧ ArgOk G σ ρ H as ss vs
  | .bor i as, ss, v :: vs => σ[i]? = some (some v) ∧ ArgOk G σ ρ H as ss vs
  | .chg i as, ss, v :: vs => σ[i]? = some (some v) ∧ ArgOk G σ ρ H as ss vs
  | _, _, _ => False
def As.len : As → Nat
  | .nil => 0
  | .e _ as => as.len + 1
  | .bor _ as => as.len + 1
  | .chg _ as => as.len + 1
theorem ArgOk.len : ∀ {as : As} {rs : List Sl} {vs : List V}, ArgOk G σ ρ H as rs vs → vs.length = as.len
  | .nil, [], [], _ => rfl
  | .nil, [], _ :: _, k => False.elim k
  | .nil, _ :: _, _, k => False.elim k
  | .e t as, [], _, k => False.elim k
  | .e t as, s :: rs, [], k => False.elim k
  | .e t as, s :: rs, v :: vs, k => congrArg (· + 1) k.2.len
  | .bor i as, rs, [], k => by cases rs <;> exact False.elim k
  | .bor i as, rs, v :: vs, k => by
    have k : σ[i]? = some (some v) ∧ ArgOk G σ ρ H as rs vs := by cases rs <;> exact k
    exact congrArg (· + 1) k.2.len
  | .chg i as, rs, [], k => by cases rs <;> exact False.elim k
  | .chg i as, rs, v :: vs, k => by
    have k : σ[i]? = some (some v) ∧ ArgOk G σ ρ H as rs vs := by cases rs <;> exact k
    exact congrArg (· + 1) k.2.len
def rdA (X : Cx) (G : Gh) (as : As) (f : Sv → R (List Sl × Sv)) : TA := fun σ H Q => ∃ ρ, Rp G H σ ρ ∧ Out3 X G σ ρ H (f ρ) fun r => ∀ vs H', Stp G σ ρ H r.2 H' → ArgOk G σ r.2 H' as r.1 vs → Q vs H'
theorem pr_nil : PA X [] (rdA X G .nil fun ρ => .ok ([], ρ)) := ⟨fun pos pins s σ H Q I ⟨ρ, rp, o⟩ => pa_nil.run pos pins s σ H Q I (o [] H (.refl rp) trivial)⟩
theorem ArgV.of {ρ' : Sv} {H' : Hp} {v : V} {s : Sl} (h : RvOk G σ ρ H ρ1 H1 v s) (st : Stp G σ ρ1 H1 ρ' H') : ArgV G σ ρ' H' v s := by
  cases s with
  | im d => exact Dn.still st.ext.still h
  | own ct =>
    obtain ⟨a, rfl, h1, _, _, h5⟩ := h
    refine ⟨a, rfl, h1.keep st.ext.still fun o e t => st.ext.keep a o e (fun ⟨i, q1, q2⟩ => h5 i (isCt_of_OM q1) q2) t, fun i hi => h5 i (st.ct hi)⟩
  | bor ct => exact False.elim h
  | chg ct => exact False.elim h
theorem pr_e {t : E} {as : As} {f : Sv → R (Sl × Sv)} {g : Sv → R (List Sl × Sv)} (ha : PE X e (rdV X G f)) (hr : PA X es (rdA X G as g)) (hs : notStar e = true) :
    PA X (e :: es) (rdA X G (.e t as) fun ρ => f ρ >>= fun r => g r.2 >>= fun rs => .ok (r.1 :: rs.1, rs.2)) := by
  refine ⟨fun pos pins s σ H Q I ⟨ρ, rp, o⟩ => (pa_cons ha hr (star_one hs)).run pos pins s σ H Q I ⟨ρ, rp, (Out3.bind o).mono fun r _ q v H1 st rv => ⟨r.2, st.rp, (Out3.later st (Out3.bind q)).mono fun rs _ q2 vs H2 st2 av => ?_⟩⟩⟩
  exact q2 (v :: vs) H2 (st.trans st2) ⟨.of rv st2, av⟩
theorem pr_slot {i : Nat} {as : As} {g : Sv → R (List Sl × Sv)} (ha : PE X e (tVar i)) (hr : PA X es (rdA X G as g)) (hs : notStar e = true) (as' : As) (h' : as' = .bor i as ∨ as' = .chg i as) :
    PA X (e :: es) (rdA X G as' fun ρ => slotC ρ i >>= fun _ => g ρ) := by
  refine ⟨fun pos pins s σ H Q I ⟨ρ, rp, o⟩ => (pa_cons (ps_of (G := G) ha) hr (star_one hs)).run pos pins s σ H Q I ⟨ρ, rp, (Out3.bind o).mono fun c _ q v hv cn => ⟨ρ, rp, q.mono fun rs _ q2 vs H2 st2 av => ?_⟩⟩⟩
  refine q2 (v :: vs) H2 st2 ?_
  rcases h' with h' | h' <;> subst h' <;> exact ⟨hv, av⟩

/-! ### what a def promises -/
/-- what a def may change -/
def chgW (ss : List Sl) (vs : List V) (a : Addr) : Prop := ∃ (i : Nat) (c : Ct), ss[i]? = some (.chg c) ∧ vs[i]? = some (V.ref a)
def callG (K : PySem.W.Frag) (T : List Addr) (ec : Nat → Option (Addr × List Str)) (ss : List Sl) (vs : List V) (H : Hp) : Gh := ⟨K, T, H, chgW ss vs, ec⟩
def st0 (d : Fd) (vs : List V) : L2.St := vs.map some ++ List.replicate (d.nN - d.np) none
/-- a def's value -/
def RetOk (G : Gh) (H' : Hp) (v : V) : Sl → Prop
  | .im d => Dn G.K H' v d
  | .own c => ∃ a, v = .ref a ∧ CtAt G.K H' a c ∧ G.H0 a = none
  | _ => False
/-- what stands in the changed containers -/
def FinOk (K : PySem.W.Frag) (H' : Hp) : List V → List Sl → List Ct → Prop
  | [], [], [] => True
  | v :: vs, .chg _ :: ss, c :: cs => (∃ a, v = .ref a ∧ CtAt K H' a c) ∧ FinOk K H' vs ss cs
  | _ :: vs, .im _ :: ss, cs => FinOk K H' vs ss cs
  | _ :: vs, .own _ :: ss, cs => FinOk K H' vs ss cs
  | _ :: vs, .bor _ :: ss, cs => FinOk K H' vs ss cs
  | _, _, _ => False
structure After (G : Gh) (H' : Hp) : Prop where
  ext : Ext G.W0 G.H0 H'
  tabs : TabsOk G.T H'
def spF (K : PySem.W.Frag) (T : List Addr) (ec : Nat → Option (Addr × List Str)) (n : Calls) (d : Fd) (i : Nat) : Sp := fun vs H Q E => vs.length = d.np ∧ ∃ ss, ss.length = d.np ∧
  Rp (callG K T ec ss vs H) H (st0 d vs) (startS d ss) ∧ match n i ss with
  | .ok (s, cs) => ∀ v H', After (callG K T ec ss vs H) H' → RetOk (callG K T ec ss vs H) H' v s → FinOk K H' vs ss cs → Q v H'
  | .exc x _ => ∀ cls dd H', After (callG K T ec ss vs H) H' → ExIs (callG K T ec ss vs H) x cls dd H' → E cls dd H'
  | .bad => False

/-! ### a call -/
theorem putBack_other {i j : Nat} {c : Ct} (h : j ≠ i) : (putBack ρ i c)[j]? = ρ[j]? := by
  unfold putBack
  split
  · rw [List.getElem?_set_ne (Ne.symm h)]
  · rw [List.getElem?_set_ne (Ne.symm h)]
  · rfl
theorem putBack_length {i : Nat} {c : Ct} : (putBack ρ i c).length = ρ.length := by
  unfold putBack
  split <;> simp
/-- a slot's container, changed: how it stands -/
theorem putBack_at {i j : Nat} {c : Ct} {s : Sl} (h : (putBack ρ i c)[j]? = some (some s)) : ρ[j]? = some (some s) ∨ (j = i ∧ ((s = .own c ∧ ∃ c0, ρ[i]? = some (some (.own c0))) ∨ (s = .chg c ∧ ∃ c0, ρ[i]? = some (some (.chg c0))))) := by
  unfold putBack at h
  split at h
  · rename_i c0 e0
    rcases get_set h with ⟨e1, e2, _⟩ | ⟨_, e2⟩
    · exact .inr ⟨e1, .inl ⟨Option.some.inj e2, c0, e0⟩⟩
    · exact .inl e2
  · rename_i c0 e0
    rcases get_set h with ⟨e1, e2, _⟩ | ⟨_, e2⟩
    · exact .inr ⟨e1, .inr ⟨Option.some.inj e2, c0, e0⟩⟩
    · exact .inl e2
  · exact .inl h
theorem putBack_om {i j : Nat} {c : Ct} : isOM (putBack ρ i c)[j]? = isOM ρ[j]? := by
  by_cases h : j = i
  · subst h
    unfold putBack
    split
    · rename_i e0
      rw [List.getElem?_set_self (by have := (List.getElem?_eq_some_iff.mp e0).1; exact this), e0]
      rfl
    · rename_i e0
      rw [List.getElem?_set_self (by have := (List.getElem?_eq_some_iff.mp e0).1; exact this), e0]
      rfl
    · rfl
  · rw [putBack_other h]
theorem putBack_ct {i j : Nat} {c : Ct} : isCt (putBack ρ i c)[j]? = isCt ρ[j]? := by
  by_cases h : j = i
  · subst h
    unfold putBack
    split
    · rename_i e0
      rw [List.getElem?_set_self (by have := (List.getElem?_eq_some_iff.mp e0).1; exact this), e0]
      rfl
    · rename_i e0
      rw [List.getElem?_set_self (by have := (List.getElem?_eq_some_iff.mp e0).1; exact this), e0]
      rfl
    · rfl
  · rw [putBack_other h]
theorem putBack_bc {i : Nat} {c : Ct} : BC ρ (putBack ρ i c) := by
  refine ⟨fun j c' h => ?_, fun j c' h => ?_⟩
  · rcases putBack_at h with h | ⟨_, ⟨h, _⟩ | ⟨h, _⟩⟩
    · exact h
    · cases h
    · cases h
  · rcases putBack_at h with h | ⟨e, ⟨h, _⟩ | ⟨h, c0, h0⟩⟩
    · exact ⟨c', h⟩
    · cases h
    · subst e; exact ⟨c0, h0⟩
def backO (c : Ct) : Option (Option Sl) → Option (Option Sl)
  | some (some (.own _)) => some (some (.own c))
  | some (some (.chg _)) => some (some (.chg c))
  | o => o
theorem putBack_self {i : Nat} {c : Ct} : (putBack ρ i c)[i]? = backO c ρ[i]? := by
  unfold putBack
  split
  · rename_i e0
    rw [List.getElem?_set_self (by have := (List.getElem?_eq_some_iff.mp e0).1; exact this), e0]
    rfl
  · rename_i e0
    rw [List.getElem?_set_self (by have := (List.getElem?_eq_some_iff.mp e0).1; exact this), e0]
    rfl
  · rename_i h1 h2
    unfold backO
    split
    · rename_i e; exact absurd e (h1 _)
    · rename_i e; exact absurd e (h2 _)
    · rfl
theorem putBacks_length : ∀ {is : List Nat} {cs : List Ct} {ρ : Sv}, (putBacks ρ is cs).length = ρ.length
  | [], _, _ => by simp [putBacks]
  | _ :: _, [], _ => by simp [putBacks]
  | i :: is, c :: cs, ρ => by rw [putBacks, putBacks_length, putBack_length]
theorem putBacks_other {j : Nat} : ∀ {is : List Nat} {cs : List Ct} {ρ : Sv}, j ∉ is → (putBacks ρ is cs)[j]? = ρ[j]?
  | [], _, _, _ => by simp [putBacks]
  | _ :: _, [], _, _ => by simp [putBacks]
  | i :: is, c :: cs, ρ, h => by
    rw [putBacks, putBacks_other fun z => h (List.mem_cons_of_mem _ z), putBack_other fun z : j = i => h (by rw [z]; exact List.mem_cons_self)]
theorem putBacks_om {j : Nat} : ∀ {is : List Nat} {cs : List Ct} {ρ : Sv}, isOM (putBacks ρ is cs)[j]? = isOM ρ[j]?
  | [], _, _ => by simp [putBacks]
  | _ :: _, [], _ => by simp [putBacks]
  | i :: is, c :: cs, ρ => by rw [putBacks, putBacks_om, putBack_om]
theorem putBacks_ct {j : Nat} : ∀ {is : List Nat} {cs : List Ct} {ρ : Sv}, isCt (putBacks ρ is cs)[j]? = isCt ρ[j]?
  | [], _, _ => by simp [putBacks]
  | _ :: _, [], _ => by simp [putBacks]
  | i :: is, c :: cs, ρ => by rw [putBacks, putBacks_ct, putBack_ct]
theorem putBacks_bc : ∀ {is : List Nat} {cs : List Ct} {ρ : Sv}, BC ρ (putBacks ρ is cs)
  | [], _, _ => by simp only [putBacks]; exact .refl _
  | _ :: _, [], _ => by simp only [putBacks]; exact .refl _
  | i :: is, c :: cs, ρ => by rw [putBacks]; exact putBack_bc.trans putBacks_bc
/-- the arguments with what the callee's slots hold -/
inductive AR (G : Gh) (σ : L2.St) (ρ : Sv) (H : Hp) : As → List Sl → List V → Prop
  | nil : AR G σ ρ H .nil [] []
  | im (t : E) {as : As} {ss : List Sl} {vs : List V} {v : V} {d : D} : Dn G.K H v d → AR G σ ρ H as ss vs → AR G σ ρ H (.e t as) (.im d :: ss) (v :: vs)
  | tmp (t : E) {as : As} {ss : List Sl} {vs : List V} {a : Addr} {c : Ct} : CtRd G.K H a c → (∀ i : Nat, isCt ρ[i]? = true → σ[i]? ≠ some (some (V.ref a))) → AR G σ ρ H as ss vs → AR G σ ρ H (.e t as) (.bor c :: ss) (.ref a :: vs)
  | borI {i : Nat} {as : As} {ss : List Sl} {vs : List V} {v : V} {d : D} : Dn G.K H v d → AR G σ ρ H as ss vs → AR G σ ρ H (.bor i as) (.im d :: ss) (v :: vs)
  | borC {i : Nat} {as : As} {ss : List Sl} {vs : List V} {a : Addr} {c : Ct} : σ[i]? = some (some (V.ref a)) → isCt ρ[i]? = true → CtRd G.K H a c → AR G σ ρ H as ss vs → AR G σ ρ H (.bor i as) (.bor c :: ss) (.ref a :: vs)
  | chg {i : Nat} {as : As} {ss : List Sl} {vs : List V} {a : Addr} {c : Ct} : σ[i]? = some (some (V.ref a)) → isOM ρ[i]? = true → CtAt G.K H a c → AR G σ ρ H as ss vs → AR G σ ρ H (.chg i as) (.chg c :: ss) (.ref a :: vs)
theorem ar_of (rp : Rp G H σ ρ) : ∀ {as : As} {rs ss : List Sl} {vs : List V}, argSls ρ as rs = .ok ss → ArgOk G σ ρ H as rs vs → AR G σ ρ H as ss vs
  | .nil, [], ss, [], h, _ => by cases h; exact .nil
  | .nil, [], _, _ :: _, _, k => False.elim k
  | .nil, _ :: _, _, _, h, _ => by cases h
  | .e t as, [], _, _, h, _ => by cases h
  | .e t as, s :: rs, ss, [], _, k => False.elim k
  | .e t as, s :: rs, ss, v :: vs, h, k => by
    obtain ⟨s1, e1, h⟩ := R.bind_ok h
    obtain ⟨ss1, e2, h⟩ := R.map_ok h
    subst h
    have ih := ar_of rp e2 k.2
    have k1 := k.1
    cases s with
    | im d => cases e1; exact .im t k1 ih
    | own c => cases e1; obtain ⟨a, rfl, h1, h2⟩ := k1; exact .tmp t h1.rd h2 ih
    | bor c => cases e1
    | chg c => cases e1
  | .bor i as, rs, ss, [], _, k => by cases rs <;> exact False.elim k
  | .bor i as, rs, ss, v :: vs, h, k => by
    have h : (borS ρ i >>= fun s => argSls ρ as rs >>= fun ss => R.ok (s :: ss)) = .ok ss := by cases rs <;> exact h
    have k : σ[i]? = some (some v) ∧ ArgOk G σ ρ H as rs vs := by cases rs <;> exact k
    obtain ⟨s1, e1, h⟩ := R.bind_ok h
    obtain ⟨ss1, e2, h⟩ := R.map_ok h
    subst h
    have ih := ar_of rp e2 k.2
    unfold borS at e1
    split at e1
    · rename_i d ed
      cases e1
      obtain ⟨w, hw, ok⟩ := rp.slot i _ ed
      rw [k.1] at hw; cases hw
      exact .borI ok ih
    · rename_i c ed
      cases e1
      obtain ⟨w, hw, a, rfl, ok, _⟩ := rp.slot i _ ed
      rw [k.1] at hw; cases hw
      exact .borC k.1 (by rw [ed]; rfl) ok.rd ih
    · rename_i c ed
      cases e1
      obtain ⟨w, hw, a, rfl, ok⟩ := rp.slot i _ ed
      rw [k.1] at hw; cases hw
      exact .borC k.1 (by rw [ed]; rfl) ok ih
    · rename_i c ed
      cases e1
      obtain ⟨w, hw, a, rfl, ok, _⟩ := rp.slot i _ ed
      rw [k.1] at hw; cases hw
      exact .borC k.1 (by rw [ed]; rfl) ok.rd ih
    · cases e1
  | .chg i as, rs, ss, [], _, k => by cases rs <;> exact False.elim k
  | .chg i as, rs, ss, v :: vs, h, k => by
    have h : (mutS ρ i >>= fun s => argSls ρ as rs >>= fun ss => R.ok (s :: ss)) = .ok ss := by cases rs <;> exact h
    have k : σ[i]? = some (some v) ∧ ArgOk G σ ρ H as rs vs := by cases rs <;> exact k
    obtain ⟨s1, e1, h⟩ := R.bind_ok h
    obtain ⟨ss1, e2, h⟩ := R.map_ok h
    subst h
    have ih := ar_of rp e2 k.2
    unfold mutS at e1
    split at e1
    · rename_i c ed
      cases e1
      obtain ⟨w, hw, a, rfl, ok, _⟩ := rp.slot i _ ed
      rw [k.1] at hw; cases hw
      exact .chg k.1 (by rw [ed]; rfl) ok ih
    · rename_i c ed
      cases e1
      obtain ⟨w, hw, a, rfl, ok, _⟩ := rp.slot i _ ed
      rw [k.1] at hw; cases hw
      exact .chg k.1 (by rw [ed]; rfl) ok ih
    · cases e1
theorem AR.len {as : As} {ss : List Sl} {vs : List V} (h : AR G σ ρ H as ss vs) : ss.length = vs.length := by
  induction h with
  | nil => rfl
  | _ => simp_all
/-- a position's container: a slot's, or no slot's -/
theorem AR.posn {as : As} {ss : List Sl} {vs : List V} (h : AR G σ ρ H as ss vs) : ∀ {j : Nat} {s : Sl} {a : Addr}, ss[j]? = some s → isCt (some (some s)) = true → vs[j]? = some (V.ref a) →
    (∃ i, i ∈ as.muts ++ as.bors ∧ isCt ρ[i]? = true ∧ σ[i]? = some (some (V.ref a))) ∨ ∀ i : Nat, isCt ρ[i]? = true → σ[i]? ≠ some (some (V.ref a)) := by
  induction h with
  | nil => intro j s a h; simp at h
  | im t hd _ ih =>
    intro j s a h1 h2 h3
    cases j with
    | zero => cases h1; cases h2
    | succ j => exact ih (by simpa using h1) h2 (by simpa using h3)
  | tmp t hd hn _ ih =>
    intro j s a h1 h2 h3
    cases j with
    | zero => cases h3; exact .inr hn
    | succ j => exact ih (by simpa using h1) h2 (by simpa using h3)
  | borI hd _ ih =>
    intro j s a h1 h2 h3
    cases j with
    | zero => cases h1; cases h2
    | succ j =>
      rcases ih (by simpa using h1) h2 (by simpa using h3) with ⟨i, q1, q2⟩ | q
      · exact .inl ⟨i, by simp only [As.muts, As.bors, List.mem_append, List.mem_cons] at q1 ⊢; rcases q1 with q | q <;> simp [q], q2⟩
      · exact .inr q
  | borC hσ hct hd _ ih =>
    intro j s a h1 h2 h3
    cases j with
    | zero => cases h3; exact .inl ⟨_, by simp [As.bors], hct, hσ⟩
    | succ j =>
      rcases ih (by simpa using h1) h2 (by simpa using h3) with ⟨i, q1, q2⟩ | q
      · exact .inl ⟨i, by simp only [As.muts, As.bors, List.mem_append, List.mem_cons] at q1 ⊢; rcases q1 with q | q <;> simp [q], q2⟩
      · exact .inr q
  | chg hσ hct hd _ ih =>
    intro j s a h1 h2 h3
    cases j with
    | zero => cases h3; exact .inl ⟨_, by simp [As.muts], isCt_of_OM hct, hσ⟩
    | succ j =>
      rcases ih (by simpa using h1) h2 (by simpa using h3) with ⟨i, q1, q2⟩ | q
      · exact .inl ⟨i, by simp only [As.muts, As.bors, List.mem_append, List.mem_cons] at q1 ⊢; rcases q1 with q | q <;> simp [q], q2⟩
      · exact .inr q
/-- a position that is changed -/
theorem AR.mut {as : As} {ss : List Sl} {vs : List V} (h : AR G σ ρ H as ss vs) : ∀ {j : Nat} {c : Ct} {v : V}, ss[j]? = some (.chg c) → vs[j]? = some v →
    ∃ i a, v = V.ref a ∧ i ∈ as.muts ∧ isOM ρ[i]? = true ∧ σ[i]? = some (some (V.ref a)) ∧ CtAt G.K H a c := by
  induction h with
  | nil => intro j s a h; simp at h
  | im t hd _ ih =>
    intro j c v h1 h3
    cases j with
    | zero => cases h1
    | succ j => exact ih (by simpa using h1) (by simpa using h3)
  | tmp t hd hn _ ih =>
    intro j c v h1 h3
    cases j with
    | zero => cases h1
    | succ j => exact ih (by simpa using h1) (by simpa using h3)
  | borI hd _ ih =>
    intro j c v h1 h3
    cases j with
    | zero => cases h1
    | succ j => exact ih (by simpa using h1) (by simpa using h3)
  | borC hσ hct hd _ ih =>
    intro j c v h1 h3
    cases j with
    | zero => cases h1
    | succ j => exact ih (by simpa using h1) (by simpa using h3)
  | chg hσ hct hd _ ih =>
    intro j c v h1 h3
    cases j with
    | zero => cases h1; cases h3; exact ⟨_, _, rfl, by simp [As.muts], hct, hσ, hd⟩
    | succ j =>
      obtain ⟨i, a, q1, q2, q3⟩ := ih (by simpa using h1) (by simpa using h3)
      exact ⟨i, a, q1, by simp [As.muts, q2], q3⟩
theorem AR.slot {as : As} {ss : List Sl} {vs : List V} (h : AR G σ ρ H as ss vs) : ∀ {j : Nat} {s : Sl}, ss[j]? = some s → ∃ v, vs[j]? = some v ∧ match s with
    | .im d => Dn G.K H v d
    | .bor c => ∃ a, v = V.ref a ∧ CtRd G.K H a c
    | .chg c => ∃ a, v = V.ref a ∧ CtAt G.K H a c
    | .own _ => False := by
  induction h with
  | nil => intro j s h; simp at h
  | im t hd _ ih =>
    intro j s h
    cases j with
    | zero => cases h; exact ⟨_, rfl, hd⟩
    | succ j => obtain ⟨v, q⟩ := ih (by simpa using h); exact ⟨v, by simpa using q⟩
  | tmp t hd hn _ ih =>
    intro j s h
    cases j with
    | zero => cases h; exact ⟨_, rfl, _, rfl, hd⟩
    | succ j => obtain ⟨v, q⟩ := ih (by simpa using h); exact ⟨v, by simpa using q⟩
  | borI hd _ ih =>
    intro j s h
    cases j with
    | zero => cases h; exact ⟨_, rfl, hd⟩
    | succ j => obtain ⟨v, q⟩ := ih (by simpa using h); exact ⟨v, by simpa using q⟩
  | borC hσ hct hd _ ih =>
    intro j s h
    cases j with
    | zero => cases h; exact ⟨_, rfl, _, rfl, hd⟩
    | succ j => obtain ⟨v, q⟩ := ih (by simpa using h); exact ⟨v, by simpa using q⟩
  | chg hσ hct hd _ ih =>
    intro j s h
    cases j with
    | zero => cases h; exact ⟨_, rfl, _, rfl, hd⟩
    | succ j => obtain ⟨v, q⟩ := ih (by simpa using h); exact ⟨v, by simpa using q⟩
theorem AR.sep (rp : Rp G H σ ρ) {as : As} {ss : List Sl} {vs : List V} (h : AR G σ ρ H as ss vs) : as.muts.Nodup → (∀ i ∈ as.bors, i ∉ as.muts) → ∀ {j k : Nat} {c : Ct} {s : Sl} {a : Addr}, j ≠ k → ss[j]? = some (.chg c) → ss[k]? = some s → isCt (some (some s)) = true →
    vs[j]? = some (V.ref a) → vs[k]? ≠ some (V.ref a) := by
  induction h with
  | nil => intro _ _ j k c s a _ h; simp at h
  | im t hd _ ih =>
    intro nd hb j k c s a hjk h1 h2 h3 h4
    cases j with
    | zero => cases h1
    | succ j => cases k with
      | zero => cases h2; cases h3
      | succ k => exact ih nd hb (fun (z : j = k) => hjk (congrArg Nat.succ z)) (by simpa using h1) (by simpa using h2) h3 (by simpa using h4)
  | tmp t hd hn hr ih =>
    intro nd hb j k c s a hjk h1 h2 h3 h4
    cases j with
    | zero => cases h1
    | succ j => cases k with
      | zero =>
        intro z
        cases z
        obtain ⟨i, a', e1, hi, om, hσ, _⟩ := hr.mut (j := j) (by simpa using h1) (by simpa using h4)
        cases e1
        exact hn i (isCt_of_OM om) hσ
      | succ k => exact ih nd hb (fun (z : j = k) => hjk (congrArg Nat.succ z)) (by simpa using h1) (by simpa using h2) h3 (by simpa using h4)
  | borI hd _ ih =>
    intro nd hb j k c s a hjk h1 h2 h3 h4
    have hb' := fun i (q : i ∈ _) => hb i (List.mem_cons_of_mem _ q)
    cases j with
    | zero => cases h1
    | succ j => cases k with
      | zero => cases h2; cases h3
      | succ k => exact ih nd hb' (fun (z : j = k) => hjk (congrArg Nat.succ z)) (by simpa using h1) (by simpa using h2) h3 (by simpa using h4)
  | @borC i as ss vs a0 c0 hσ hct hd hr ih =>
    intro nd hb j k c s a hjk h1 h2 h3 h4
    have hb' := fun i (q : i ∈ as.bors) => hb i (List.mem_cons_of_mem _ q)
    cases j with
    | zero => cases h1
    | succ j => cases k with
      | zero =>
        intro z
        cases z
        obtain ⟨i', a', e1, hi, om, hσ', _⟩ := hr.mut (j := j) (by simpa using h1) (by simpa using h4)
        cases e1
        refine rp.sep i' i _ (fun z => ?_) om hct hσ' hσ
        subst z
        exact hb i' List.mem_cons_self hi
      | succ k => exact ih nd hb' (fun (z : j = k) => hjk (congrArg Nat.succ z)) (by simpa using h1) (by simpa using h2) h3 (by simpa using h4)
  | @chg i as ss vs a0 c0 hσ hct hd hr ih =>
    intro nd hb j k c s a hjk h1 h2 h3 h4
    have nd' := List.nodup_cons.mp nd
    have hb' := fun i' (q : i' ∈ as.bors) (z : i' ∈ as.muts) => hb i' q (List.mem_cons_of_mem _ z)
    cases j with
    | zero => cases k with
      | zero => exact absurd rfl hjk
      | succ k =>
        intro z
        cases h4
        rcases hr.posn (j := k) (by simpa using h2) h3 (by simpa using z) with ⟨i', q1, q2, q3⟩ | q
        · refine rp.sep i i' _ (fun z => ?_) hct q2 hσ q3
          subst z
          rcases List.mem_append.mp q1 with q | q
          · exact nd'.1 q
          · exact hb i q List.mem_cons_self
        · exact q i (isCt_of_OM hct) hσ
    | succ j => cases k with
      | zero =>
        intro z
        cases z
        obtain ⟨i', a', e1, hi, om, hσ', _⟩ := hr.mut (j := j) (by simpa using h1) (by simpa using h4)
        cases e1
        refine rp.sep i' i _ (fun z => ?_) om (isCt_of_OM hct) hσ' hσ
        subst z
        exact nd'.1 hi
      | succ k => exact ih nd'.2 hb' (fun (z : j = k) => hjk (congrArg Nat.succ z)) (by simpa using h1) (by simpa using h2) h3 (by simpa using h4)
theorem start_get {α : Type} {xs : List α} {n i : Nat} {x : α} (h : (xs.map some ++ List.replicate n none)[i]? = some (some x)) : xs[i]? = some x := by
  by_cases hi : i < xs.length
  · rw [List.getElem?_append_left (by simpa using hi), List.getElem?_map] at h
    cases e : xs[i]? with
    | none => rw [e] at h; cases h
    | some a => rw [e] at h; cases h; rfl
  · rw [List.getElem?_append_right (by simpa using hi), List.getElem?_replicate] at h
    split at h <;> cases h
theorem start_put {α : Type} {xs : List α} {n i : Nat} {x : α} (h : xs[i]? = some x) : (xs.map some ++ List.replicate n none)[i]? = some (some x) := by
  have hi := (List.getElem?_eq_some_iff.mp h).1
  rw [List.getElem?_append_left (by simpa using hi), List.getElem?_map, h]
  rfl
/-- the callee's state at its entry -/
theorem AR.start (rp : Rp G H σ ρ) {as : As} {ss : List Sl} {vs : List V} (h : AR G σ ρ H as ss vs) (nd : as.muts.Nodup) (hb : ∀ i ∈ as.bors, i ∉ as.muts) {d : Fd} (hl : ss.length = d.np) : Rp (callG G.K G.T G.ec ss vs H) H (st0 d vs) (startS d ss) where
  len := by unfold st0 startS; simp [h.len]
  slot := fun i s e => by
    have e1 := start_get e
    obtain ⟨v, hv, q⟩ := h.slot e1
    refine ⟨v, start_put hv, ?_⟩
    cases s with
    | im d => exact q
    | bor c => exact q
    | own c => exact False.elim q
    | chg c => obtain ⟨a, rfl, q⟩ := q; exact ⟨a, rfl, q, i, c, e1, hv⟩
  sep := fun i j a hij h1 h2 h3 h4 => by
    cases e1 : (startS d ss)[i]? with
    | none => rw [e1] at h1; cases h1
    | some o => cases o with
      | none => rw [e1] at h1; cases h1
      | some s =>
        have g1 := start_get e1
        cases e2 : (startS d ss)[j]? with
        | none => rw [e2] at h2; cases h2
        | some o2 => cases o2 with
          | none => rw [e2] at h2; cases h2
          | some s2 =>
            have g2 := start_get e2
            rw [e1] at h1
            rw [e2] at h2
            cases s with
            | im d => cases h1
            | bor c => cases h1
            | own c => obtain ⟨v, hv, q⟩ := h.slot g1; exact q
            | chg c => exact h.sep rp nd hb hij g1 g2 h2 (start_get h3) (start_get h4)
  ext := .refl
  tabs := rp.tabs
/-- the changed containers, behind the call -/
theorem AR.fin {H' : Hp} {as : As} {ss : List Sl} {vs : List V} (h : AR G σ ρ H as ss vs) : ∀ {cs : List Ct} {ρ' : Sv}, FinOk G.K H' vs ss cs → as.muts.Nodup → ∀ j ∈ as.muts, ∃ c a, σ[j]? = some (some (V.ref a)) ∧ CtAt G.K H' a c ∧ (putBacks ρ' as.muts cs)[j]? = backO c ρ'[j]? := by
  induction h with
  | nil => intro cs ρ' _ _ j hj; exact absurd hj (by simp [As.muts])
  | im t hd _ ih => intro cs ρ' f nd j hj; exact ih (by cases cs <;> exact f) nd j hj
  | tmp t hd hn _ ih => intro cs ρ' f nd j hj; exact ih (by cases cs <;> exact f) nd j hj
  | borI hd _ ih => intro cs ρ' f nd j hj; exact ih (by cases cs <;> exact f) nd j hj
  | borC hσ hct hd _ ih => intro cs ρ' f nd j hj; exact ih (by cases cs <;> exact f) nd j hj
  | @chg i as ss vs a0 c0 hσ hct hd hr ih =>
    intro cs ρ' f nd j hj
    have nd' := List.nodup_cons.mp nd
    cases cs with
    | nil => exact False.elim f
    | cons c cs =>
      obtain ⟨⟨a, e, hc⟩, f⟩ := f
      cases e
      rcases List.mem_cons.mp hj with e | hj'
      · subst e
        exact ⟨c, a0, hσ, hc, by show (putBacks (putBack ρ' j c) as.muts cs)[j]? = _; rw [putBacks_other nd'.1, putBack_self]⟩
      · obtain ⟨c', a', q1, q2, q3⟩ := ih (ρ' := putBack ρ' i c) f nd'.2 j hj'
        refine ⟨c', a', q1, q2, ?_⟩
        show (putBacks (putBack ρ' i c) as.muts cs)[j]? = _
        rw [q3, putBack_other fun z : j = i => nd'.1 (by rw [← z]; exact hj')]
theorem AR.after {H' : Hp} (rp : Rp G H σ ρ) {as : As} {ss : List Sl} {vs : List V} (h : AR G σ ρ H as ss vs) (nd : as.muts.Nodup) {cs : List Ct} (f : FinOk G.K H' vs ss cs) (af : After (callG G.K G.T G.ec ss vs H) H') : Stp G σ ρ H (putBacks ρ as.muts cs) H' := by
  have hW : ∀ a, chgW ss vs a → OA σ ρ a := fun a ⟨i, c, h1, h2⟩ => by
    obtain ⟨i', a', e1, hi, om, hσ, _⟩ := h.mut h1 h2
    cases e1
    exact ⟨i', om, hσ⟩
  have ext : Ext (OA σ ρ) H H' := af.ext.mono fun a z => .inl (hW a z)
  refine ⟨⟨by rw [putBacks_length]; exact rp.len, fun j s e => ?_, fun i j a hij h1 h2 => ?_, rp.ext.trans af.ext fun a z => (hW a z).prov rp, af.tabs⟩, ext, fun i q => by rwa [putBacks_om] at q, putBacks_bc⟩
  · by_cases hj : j ∈ as.muts
    · obtain ⟨c, a, h1, h2, h3⟩ := h.fin (ρ' := ρ) f nd j hj
      rw [h3] at e
      cases e0 : ρ[j]? with
      | none => rw [e0] at e; cases e
      | some o => cases o with
        | none => rw [e0] at e; cases e
        | some s0 =>
          obtain ⟨v, hv, ok⟩ := rp.slot j s0 e0
          rw [h1] at hv
          cases hv
          rw [e0] at e
          cases s0 with
          | im d =>
            cases e
            exact ⟨_, h1, Dn.still ext.still ok⟩
          | own c0 => cases e; obtain ⟨a', e', _, q⟩ := ok; cases e'; exact ⟨_, h1, a, rfl, h2, q⟩
          | chg c0 => cases e; obtain ⟨a', e', _, q⟩ := ok; cases e'; exact ⟨_, h1, a, rfl, h2, q⟩
          | bor c0 =>
            exfalso
            -- a slot that is changed is no borrowed one
            have : isOM ρ[j]? = true := by
              have : ∀ {as : As} {ss : List Sl} {vs : List V}, AR G σ ρ H as ss vs → j ∈ as.muts → isOM ρ[j]? = true := by
                intro as ss vs h
                induction h with
                | nil => intro z; exact absurd z (by simp [As.muts])
                | chg hσ hct hd hr ih => intro z; rcases List.mem_cons.mp z with e | z
                                         · rw [e]; exact hct
                                         · exact ih z
                | im _ _ _ ih => exact ih
                | tmp _ _ _ _ ih => exact ih
                | borI _ _ ih => exact ih
                | borC _ _ _ _ ih => exact ih
              exact this h hj
            rw [e0] at this
            cases this
    · rw [putBacks_other hj] at e
      obtain ⟨v, hv, ok⟩ := rp.slot j s e
      refine ⟨v, hv, ok.keep ext.still fun hct a o ev ea ht => af.ext.keep a o ea (fun ⟨i, c, h1, h2⟩ => ?_) ht⟩
      obtain ⟨i', a', e1, hi, om, hσ, _⟩ := h.mut h1 h2
      cases e1
      subst ev
      exact rp.sep i' j _ (fun (z : i' = j) => hj (by rw [← z]; exact hi)) om (by rw [e]; exact hct) hσ hv
  · rw [putBacks_om] at h1
    rw [putBacks_ct] at h2
    exact rp.sep i j a hij h1 h2
theorem AR.nomut {H' : Hp} {K : PySem.W.Frag} {as : As} {ss : List Sl} {vs : List V} (h : AR G σ ρ H as ss vs) : as.muts = [] → FinOk K H' vs ss [] := by
  induction h with
  | nil => intro _; trivial
  | im _ _ _ ih => exact ih
  | tmp _ _ _ _ ih => exact ih
  | borI _ _ ih => exact ih
  | borC _ _ _ _ ih => exact ih
  | chg _ _ _ _ _ => intro z; cases z
theorem AR.fin_nil {as : As} (h : as.muts = []) (cs : List Ct) : putBacks ρ as.muts cs = ρ := by rw [h]; simp [putBacks]
theorem argE_ne (s : Sl) (x : Ex) (ρ : Sv) : argE s ≠ .exc x ρ := by
  cases s <;> exact fun z => by cases z
theorem argSls_ne : ∀ (ρ0 : Sv) (as : As) (rs : List Sl) (x : Ex) (ρ : Sv), argSls ρ0 as rs ≠ .exc x ρ
  | _, .nil, [], _, _ => fun z => by cases z
  | _, .nil, _ :: _, _, _ => fun z => by cases z
  | _, .e _ as, [], _, _ => fun z => by cases z
  | ρ0, .e _ as, s :: rs, x, ρ => fun z => by
    have z : (argE s >>= fun s => argSls ρ0 as rs >>= fun ss => R.ok (s :: ss)) = .exc x ρ := z
    cases e1 : argE s with
    | exc y ρ2 => exact argE_ne _ _ _ e1
    | bad => rw [e1] at z; cases z
    | ok s' =>
      rw [e1] at z
      cases e2 : argSls ρ0 as rs with
      | exc y ρ2 => exact argSls_ne _ _ _ _ _ e2
      | bad => rw [e2] at z; cases z
      | ok s' => rw [e2] at z; cases z
  | ρ0, .bor i as, rs, x, ρ => fun z => by
    have z : (borS ρ0 i >>= fun s => argSls ρ0 as rs >>= fun ss => R.ok (s :: ss)) = .exc x ρ := by cases rs <;> exact z
    cases e1 : borS ρ0 i with
    | exc y ρ2 => unfold borS at e1; split at e1 <;> cases e1
    | bad => rw [e1] at z; cases z
    | ok s' =>
      rw [e1] at z
      cases e2 : argSls ρ0 as rs with
      | exc y ρ2 => exact argSls_ne _ _ _ _ _ e2
      | bad => rw [e2] at z; cases z
      | ok s' => rw [e2] at z; cases z
  | ρ0, .chg i as, rs, x, ρ => fun z => by
    have z : (mutS ρ0 i >>= fun s => argSls ρ0 as rs >>= fun ss => R.ok (s :: ss)) = .exc x ρ := by cases rs <;> exact z
    cases e1 : mutS ρ0 i with
    | exc y ρ2 => unfold mutS at e1; split at e1 <;> cases e1
    | bad => rw [e1] at z; cases z
    | ok s' =>
      rw [e1] at z
      cases e2 : argSls ρ0 as rs with
      | exc y ρ2 => exact argSls_ne _ _ _ _ _ e2
      | bad => rw [e2] at z; cases z
      | ok s' => rw [e2] at z; cases z
/-- what a call gives, from the arguments -/
def callR (n : Calls) (f : Nat) (as : As) (r : List Sl × Sv) : R (Sl × Sv) := argSls r.2 as r.1 >>= fun ss => guardR (decide as.muts.Nodup && as.bors.all fun i => !as.muts.contains i) (match n f ss with
    | .ok o => .ok (o.1, putBacks r.2 as.muts o.2)
    | .exc x _ => guardR as.muts.isEmpty (.exc x r.2)
    | .bad => .bad)
theorem RetOk.rv {as : As} {ss : List Sl} {vs : List V} {H' : Hp} {v : V} {s : Sl} {n : List Ct} (rp : Rp G H1 σ ρ1) (st : Stp G σ ρ H ρ1 H1) (h : RetOk (callG G.K G.T G.ec ss vs H1) H' v s) : RvOk G σ ρ H (putBacks ρ1 as.muts n) H' v s := by
  cases s with
  | im d => exact h
  | own c =>
    obtain ⟨a, rfl, hc, hn⟩ := h
    have hn : H1 a = none := hn
    refine ⟨a, rfl, hc, ?_, .inl ?_, fun i hi z => rp.there (by rwa [putBacks_ct] at hi) z hn⟩
    · cases e : G.H0 a with
      | none => rfl
      | some u => exact absurd hn (rp.ext.dom a (by rw [e]; exact fun z => by cases z))
    · cases e : H a with
      | none => rfl
      | some u => exact absurd hn (st.ext.dom a (by rw [e]; exact fun z => by cases z))
  | bor c => exact False.elim h
  | chg c => exact False.elim h
/-- the def runs -/
theorem run_def {pins : List (Addr × Obj)} {s : Shared} {as : As} {k i : Nat} {f : Addr} {fd : FuncData} {ps : List Str} {n : Calls} {d : Fd} {rs : List Sl} {us : List Value} {vs : List V} {P : Sl × Sv → Prop} (hK : X.K = G.K)
    (F : FnOk X.prog X.w X.K X.mg X.base (L2.CX X.prog X.w) k f fd ps (spF G.K G.T G.ec n d i)) (hr : Room k X.A) (hb : Binds X.K fd ps [])
    (I : Inv X pins σ H s) (rv : Vals vs us) (rp : Rp G H σ ρ) (ak : ArgOk G σ ρ H as rs vs) (hl : ps.length = d.np) (hv : vs.length = ps.length) (o : Out3 X G σ ρ H (callR n i as (rs, ρ)) P) :
    wpAny (model X.prog X.w) X.A (call (.ref f) us) (EP X pins σ fun v H' => ∃ r : Sl × Sv, Stp G σ ρ H r.2 H' ∧ RvOk G σ ρ H r.2 H' v r.1 ∧ P r) X.xe s := by
  obtain ⟨ss, e1, o⟩ := (Out3.bind o).get (argSls_ne _ _ _)
  have ar := ar_of rp e1 ak
  obtain ⟨g, o⟩ := Out3.guard o
  obtain ⟨g1, g2⟩ := Bool.and_eq_true_iff.mp g
  have nd : as.muts.Nodup := of_decide_eq_true g1
  have hbm : ∀ i ∈ as.bors, i ∉ as.muts := fun i hi => by
    have q := List.all_eq_true.mp g2 i hi
    simpa using q
  have hss : ss.length = d.np := by rw [ar.len, hv, hl]
  have rp0 := ar.start rp nd hbm hss
  cases e2 : n i ss with
  | bad => rw [e2] at o; exact False.elim o
  | ok r =>
    rw [e2] at o
    obtain ⟨sl, cs⟩ := r
    refine run_fnSD (E := fun _ => WE (fun _ _ _ _ => False) σ) F hr hb .nil (passAt takes0 σ) I rv ?_
    rw [List.append_nil]
    refine ⟨by rw [hv, hl], ss, hss, rp0, ?_⟩
    rw [e2]
    intro v H' af ret fin
    have st := ar.after rp nd fin af
    exact ⟨_, st, RetOk.rv rp (.refl rp) ret, o⟩
  | exc x ρx =>
    rw [e2] at o
    obtain ⟨g3, o⟩ := Out3.guard o
    have hm : as.muts = [] := List.isEmpty_iff.mp g3
    replace o : ExP X G σ ρ H x ρ := o
    unfold ExP at o
    refine run_fnSD (E := fun σ' => WE (fun cls d σ1 H' => σ1 = σ ∧ ExIs G x cls d H' ∧ Stp G σ ρ H ρ H') σ) F hr hb .nil (passAt o σ) I rv ?_
    rw [List.append_nil]
    refine ⟨by rw [hv, hl], ss, hss, rp0, ?_⟩
    rw [e2]
    intro cls dd H' af ex
    have st := ar.after rp nd (cs := []) (ar.nomut hm) af
    rw [AR.fin_nil hm] at st
    exact ⟨rfl, ex, st⟩
theorem pv_call {x : Str} {p : Pos} {as : As} {k i : Nat} {f : Addr} {fd : FuncData} {ps : List Str} {n : Calls} {d : Fd} {fa : Sv → R (List Sl × Sv)} (hK : X.K = G.K)
    (F : FnOk X.prog X.w X.K X.mg X.base (L2.CX X.prog X.w) k f fd ps (spF G.K G.T G.ec n d i)) (hr : Room k X.A) (hg : Gl X x) (hm : X.mg x = some (.ref f)) (hk : PySem.W.keepIn X.K (.ref f) = true) (hb : Binds X.K fd ps [])
    (ha : PA X (e :: es) (rdA X G as fa)) (hl : ps.length = d.np) (hn : as.len = d.np) (hdb : (x == ("__debug__" : Str)) = false) (hs : ((e :: es).all notStar) = true) :
    PE X (.Call (.Name x p) (e :: es) [] pos) (rdV X G fun ρ => fa ρ >>= fun r => callR n i as r) := by
  have he : starEach (e :: es) X.env = (false, eval e X.env) :: starEach es X.env := star_one (by rw [List.all_cons] at hs; exact (Bool.and_eq_true_iff.mp hs).1)
  have hpl : (backTo pos (starEach es X.env)).any (·.1) = false := by
    rw [List.all_cons] at hs
    have hs := (Bool.and_eq_true_iff.mp hs).2
    have : ∀ es : List Expr, es.all notStar = true → (backTo pos (starEach es X.env)).any (·.1) = false := by
      intro es
      induction es with
      | nil => intro _; rfl
      | cons b es ih =>
        intro hs
        rw [List.all_cons] at hs
        obtain ⟨h1, h2⟩ := Bool.and_eq_true_iff.mp hs
        rw [star_one h1]
        exact ih h2
    exact this es hs
  refine ⟨fun pins s σ H Q I ⟨ρ, rp, o⟩ => ?_⟩
  refine wpAny_Call_Name_kw (ld_glob I hg hm ?_ hdb)
  refine PySem.W.callWith_K (h₀ := X.base) I.ok.mod.kin hk (thn (ha.run pos pins s σ H (fun vs H1 => ∃ r : List Sl × Sv, Stp G σ ρ H r.2 H1 ∧ ArgOk G σ r.2 H1 as r.1 vs ∧ Out3 X G σ ρ H (callR n i as r) fun r => ∀ v H', Stp G σ ρ H r.2 H' → RvOk G σ ρ H r.2 H' v r.1 → Q v H') I
    ⟨ρ, rp, (Out3.bind o).mono fun r _ q vs H1 st ak => ⟨r, st, ak, q⟩⟩) fun us s1 ⟨vs, H1, I1, rv, r, st, ak, q⟩ => ⟨I1.kIn, ?_⟩) he hpl
  have hv : vs.length = ps.length := by rw [ak.len, hn, hl]
  refine thn (run_def hK F hr hb I1 rv st.rp ak hl hv (Out3.later st q)) fun u s2 h => EP.imp h fun v H' ⟨r2, st2, rv2, q2⟩ => q2 v H' (st.trans st2) (rv2.later st)
end
end Wk

set_option Elab.async false
set_option linter.all false
set_option maxRecDepth 100000
set_option maxHeartbeats 4000000
/-! what is walked; comprehensions -/
namespace Wk
open PySem PySem.Spec PyProof.Rows L2

/-! ### slots by their numbers -/
theorem set_get {α : Type} {l : List (Option α)} {i j : Nat} {o : Option α} : (l.set i o)[j]? = if j = i ∧ i < l.length then some o else l[j]? := by
  by_cases h : i = j
  · subst h
    by_cases hi : i < l.length
    · rw [List.getElem?_set_self hi, if_pos ⟨rfl, hi⟩]
    · rw [List.getElem?_eq_none (by simpa using hi), if_neg (fun z => hi z.2), List.getElem?_eq_none (by simpa using hi)]
  · rw [List.getElem?_set_ne h, if_neg (fun z => h z.1.symm)]
theorem wipeS_length (ρ : Sv) : ∀ is : List Nat, (wipeS ρ is).length = ρ.length
  | [] => rfl
  | i :: is => by rw [wipeS, List.length_set, wipeS_length]
theorem wipeS_get (ρ : Sv) (j : Nat) : ∀ is : List Nat, (wipeS ρ is)[j]? = if j ∈ is ∧ j < ρ.length then some none else ρ[j]?
  | [] => by simp [wipeS]
  | i :: is => by
    rw [wipeS, set_get, wipeS_length, wipeS_get ρ j is]
    by_cases h : j = i
    · subst h
      by_cases hi : j < ρ.length <;> simp [hi]
    · simp [h]
theorem wipe_get (σ : L2.St) (j : Nat) : ∀ is : List Nat, (wipe σ is)[j]? = if j ∈ is ∧ j < σ.length then some none else σ[j]?
  | [] => by simp [wipe]
  | i :: is => by
    rw [wipe, set_get, wipe_length, wipe_get σ j is]
    by_cases h : j = i
    · subst h
      by_cases hi : j < σ.length <;> simp [hi]
    · simp [h]
def lockO : Option (Option Sl) → Option (Option Sl)
  | some (some (.own c)) => some (some (.bor c))
  | some (some (.chg c)) => some (some (.bor c))
  | o => o
theorem lockS_length (ρ : Sv) : ∀ is : List Nat, (lockS ρ is).length = ρ.length
  | [] => rfl
  | i :: is => by
    unfold lockS
    split <;> simp [lockS_length ρ is]
theorem lockS_get (ρ : Sv) (j : Nat) : ∀ is : List Nat, (lockS ρ is)[j]? = if j ∈ is then lockO ρ[j]? else ρ[j]?
  | [] => by simp [lockS]
  | i :: is => by
    unfold lockS
    have ih := lockS_get ρ j is
    by_cases h : j = i
    · subst h
      split
      · rename_i c e
        rw [set_get, lockS_length, if_pos ⟨rfl, (List.getElem?_eq_some_iff.mp e).1⟩, if_pos (by simp), e]
        rfl
      · rename_i c e
        rw [set_get, lockS_length, if_pos ⟨rfl, (List.getElem?_eq_some_iff.mp e).1⟩, if_pos (by simp), e]
        rfl
      · rename_i h1 h2
        rw [ih]
        have e : lockO ρ[j]? = ρ[j]? := by
          unfold lockO
          split
          · rename_i e; exact absurd e (h1 _)
          · rename_i e; exact absurd e (h2 _)
          · rfl
        rw [e]
        simp
    · split
      · rw [set_get, if_neg (fun z => h z.1), ih]; simp [h]
      · rw [set_get, if_neg (fun z => h z.1), ih]; simp [h]
      · rw [ih]; simp [h]
def unlO : Option (Option Sl) → Option (Option Sl) → Option (Option Sl)
  | some (some (.bor c)), some (some (.own _)) => some (some (.own c))
  | some (some (.bor c)), some (some (.chg _)) => some (some (.chg c))
  | o, _ => o
theorem unlock_length (ρ ρ0 : Sv) : ∀ is : List Nat, (unlock ρ ρ0 is).length = ρ.length
  | [] => rfl
  | i :: is => by
    unfold unlock
    split <;> simp [unlock_length ρ ρ0 is]
theorem unlock_get (ρ ρ0 : Sv) (j : Nat) : ∀ is : List Nat, (unlock ρ ρ0 is)[j]? = if j ∈ is then unlO ρ[j]? ρ0[j]? else ρ[j]?
  | [] => by simp [unlock]
  | i :: is => by
    unfold unlock
    have ih := unlock_get ρ ρ0 j is
    by_cases h : j = i
    · subst h
      split
      · rename_i c c0 e e0
        rw [set_get, unlock_length, if_pos ⟨rfl, (List.getElem?_eq_some_iff.mp e).1⟩, if_pos (by simp), e, e0]
        rfl
      · rename_i c c0 e e0
        rw [set_get, unlock_length, if_pos ⟨rfl, (List.getElem?_eq_some_iff.mp e).1⟩, if_pos (by simp), e, e0]
        rfl
      · rename_i h1 h2
        rw [ih]
        have e : unlO ρ[j]? ρ0[j]? = ρ[j]? := by
          unfold unlO
          split
          · rename_i e e0; exact absurd e0 (h1 _ _ e)
          · rename_i e e0; exact absurd e0 (h2 _ _ e)
          · rfl
        rw [e]
        simp
    · split
      · rw [set_get, if_neg (fun z => h z.1), ih]; simp [h]
      · rw [set_get, if_neg (fun z => h z.1), ih]; simp [h]
      · rw [ih]; simp [h]
theorem backS_length (ρ ρ0 : Sv) : ∀ is : List Nat, (backS ρ ρ0 is).length = ρ.length
  | [] => rfl
  | i :: is => by rw [backS, List.length_set, backS_length]
theorem backS_get (ρ ρ0 : Sv) (j : Nat) : ∀ is : List Nat, (backS ρ ρ0 is)[j]? = if j ∈ is ∧ j < ρ.length then some (ρ0[j]?.getD none) else ρ[j]?
  | [] => by simp [backS]
  | i :: is => by
    rw [backS, set_get, backS_length, backS_get ρ ρ0 j is]
    by_cases h : j = i
    · subst h
      by_cases hi : j < ρ.length <;> simp [hi]
    · simp [h]

section
variable {G : Gh} {H H' H1 H2 : Hp} {σ σ' : L2.St} {ρ ρ' ρ1 ρ2 ρe : Sv} {vs is : List Nat}
theorem isOM_wipe {j : Nat} (h : isOM (wipeS ρ vs)[j]? = true) : isOM ρ[j]? = true ∧ j ∉ vs := by
  rw [wipeS_get] at h
  split at h
  · cases h
  · rename_i hn
    refine ⟨h, fun z => hn ⟨z, ?_⟩⟩
    cases e : ρ[j]? with
    | none => rw [e] at h; cases h
    | some o => exact (List.getElem?_eq_some_iff.mp e).1
theorem isCt_wipe {j : Nat} (h : isCt (wipeS ρ vs)[j]? = true) : isCt ρ[j]? = true ∧ j ∉ vs := by
  rw [wipeS_get] at h
  split at h
  · cases h
  · rename_i hn
    refine ⟨h, fun z => hn ⟨z, ?_⟩⟩
    cases e : ρ[j]? with
    | none => rw [e] at h; cases h
    | some o => exact (List.getElem?_eq_some_iff.mp e).1
theorem wipeS_some {j : Nat} {s : Sl} (h : (wipeS ρ vs)[j]? = some (some s)) : ρ[j]? = some (some s) ∧ j ∉ vs := by
  rw [wipeS_get] at h
  split at h
  · cases h
  · rename_i hn
    exact ⟨h, fun z => hn ⟨z, (List.getElem?_eq_some_iff.mp h).1⟩⟩
theorem wipe_some' {j : Nat} {v : V} (h : (wipe σ vs)[j]? = some (some v)) : σ[j]? = some (some v) ∧ j ∉ vs := wipe_some h
theorem wipe_keep {j : Nat} (h : j ∉ vs) : (wipe σ vs)[j]? = σ[j]? := by rw [wipe_get, if_neg (fun z => h z.1)]
theorem Rp.wipe (r : Rp G H σ ρ) (vs : List Nat) : Rp G H (wipe σ vs) (wipeS ρ vs) where
  len := by rw [wipe_length, wipeS_length]; exact r.len
  slot := fun i s e => by
    obtain ⟨e1, e2⟩ := wipeS_some e
    obtain ⟨v, h1, h2⟩ := r.slot i s e1
    exact ⟨v, by rw [wipe_keep e2]; exact h1, h2⟩
  sep := fun i j a hij h1 h2 h3 h4 => r.sep i j a hij (isOM_wipe h1).1 (isCt_wipe h2).1 (wipe_some' h3).1 (wipe_some' h4).1
  ext := r.ext
  tabs := r.tabs
theorem OA.wipe {a : Addr} (h : OA (wipe σ vs) (wipeS ρ vs) a) : OA σ ρ a := let ⟨i, h1, h2⟩ := h; ⟨i, (isOM_wipe h1).1, (wipe_some' h2).1⟩
theorem lockO_om {o : Option (Option Sl)} : isOM (lockO o) = false := by
  unfold lockO
  split
  · rfl
  · rfl
  · rename_i h1 h2
    match o with
    | some (some (.own c)) => exact absurd rfl (h1 c)
    | some (some (.chg c)) => exact absurd rfl (h2 c)
    | some (some (.im d)) => rfl
    | some (some (.bor d)) => rfl
    | some none => rfl
    | none => rfl
theorem lockO_ct {o : Option (Option Sl)} : isCt (lockO o) = isCt o := by
  unfold lockO
  split <;> rfl
theorem isOM_lock {j : Nat} (h : isOM (lockS ρ is)[j]? = true) : isOM ρ[j]? = true ∧ j ∉ is := by
  rw [lockS_get] at h
  split at h
  · rw [lockO_om] at h; cases h
  · rename_i hn; exact ⟨h, hn⟩
theorem isCt_lock {j : Nat} : isCt (lockS ρ is)[j]? = isCt ρ[j]? := by
  rw [lockS_get]
  split
  · rw [lockO_ct]
  · rfl
theorem OA.lock {a : Addr} (h : OA σ (lockS ρ is) a) : OA σ ρ a := let ⟨i, h1, h2⟩ := h; ⟨i, (isOM_lock h1).1, h2⟩
theorem Rp.lock (r : Rp G H σ ρ) (is : List Nat) : Rp G H σ (lockS ρ is) where
  len := by rw [lockS_length]; exact r.len
  slot := fun i s e => by
    rw [lockS_get] at e
    split at e
    · unfold lockO at e
      split at e
      · rename_i c e1
        cases e
        obtain ⟨v, h1, a, h2, h3, _⟩ := r.slot i _ e1
        exact ⟨v, h1, a, h2, h3.rd⟩
      · rename_i c e1
        cases e
        obtain ⟨v, h1, a, h2, h3, _⟩ := r.slot i _ e1
        exact ⟨v, h1, a, h2, h3.rd⟩
      · exact r.slot i s e
    · exact r.slot i s e
  sep := fun i j a hij h1 h2 h3 h4 => r.sep i j a hij (isOM_lock h1).1 (by rwa [isCt_lock] at h2) h3 h4
  ext := r.ext
  tabs := r.tabs
/-- a locked slot's place is none that may be changed -/
theorem Rp.lock_no (r : Rp G H σ ρ) {i : Nat} {a : Addr} (hi : i ∈ is) (hc : isCt ρ[i]? = true) (hσ : σ[i]? = some (some (V.ref a))) : ¬ OA σ (lockS ρ is) a := fun ⟨j, h1, h2⟩ => by
  obtain ⟨h3, h4⟩ := isOM_lock h1
  exact r.sep j i a (fun z => h4 (by rw [z]; exact hi)) h3 hc h2 hσ

/-- as Stp, the places that may be changed told apart -/
structure Blk (G : Gh) (W : Addr → Prop) (σ : L2.St) (ρ0 : Sv) (H1 : Hp) (ρ : Sv) (H : Hp) : Prop where
  rp : Rp G H σ ρ
  ext : Ext W H1 H
  sub : ∀ i : Nat, isOM ρ[i]? = true → isOM ρ0[i]? = true
  bc : BC ρ0 ρ
theorem Stp.blk (s : Stp G σ ρ H ρ1 H1) : Blk G (OA σ ρ) σ ρ H ρ1 H1 := ⟨s.rp, s.ext, s.sub, s.bc⟩
theorem Blk.stp (s : Blk G (OA σ ρ) σ ρ H ρ1 H1) : Stp G σ ρ H ρ1 H1 := ⟨s.rp, s.ext, s.sub, s.bc⟩
theorem Blk.trans {W W1 W2 : Addr → Prop} (a : Blk G W σ ρ H ρ1 H1) (b : Blk G W1 σ ρ1 H1 ρ2 H2) (h : ∀ c, W c → W2 c) (h1 : ∀ c, W1 c → W2 c) : Blk G W2 σ ρ H ρ2 H2 :=
  ⟨b.rp, (a.ext.mono fun c z => .inl (h c z)).trans b.ext fun c z => .inl (h1 c z), fun i z => a.sub i (b.sub i z), a.bc.trans b.bc⟩
theorem Blk.mono {W W1 : Addr → Prop} (a : Blk G W σ ρ H ρ1 H1) (h : ∀ c, W c → W1 c ∨ H c = none) : Blk G W1 σ ρ H ρ1 H1 := ⟨a.rp, a.ext.mono h, a.sub, a.bc⟩
/-- no container slot's place -/
def NoS (σ : L2.St) (ρ : Sv) (a : Addr) : Prop := ∀ i : Nat, isCt ρ[i]? = true → σ[i]? ≠ some (some (V.ref a))
/-- behind a comprehension: the block's own names stand as ahead of it -/
theorem comp_end {W : Addr → Prop} (rp : Rp G H1 σ ρ) (b : Blk G W (wipe σ vs) (wipeS ρ vs) H1 ρe H2) (hW : ∀ a, W a → OA (wipe σ vs) (wipeS ρ vs) a ∨ NoS σ ρ a) :
    Blk G W σ ρ H1 (backS ρe ρ vs) H2 := by
  obtain ⟨re, ext, sub, bc⟩ := b
  have hl : ρe.length = ρ.length := by rw [← re.len, wipe_length, rp.len]
  have key : ∀ i : Nat, ((backS ρe ρ vs)[i]? = ρ[i]? ∧ (i ∈ vs ∨ ρ[i]? = none)) ∨ ((backS ρe ρ vs)[i]? = ρe[i]? ∧ i ∉ vs) := fun i => by
    rw [backS_get, hl]
    by_cases h : i ∈ vs
    · by_cases hi : i < ρ.length
      · refine .inl ⟨?_, .inl h⟩
        rw [if_pos ⟨h, hi⟩, List.getElem?_eq_getElem hi]
        rfl
      · refine .inl ⟨?_, .inl h⟩
        rw [if_neg (fun z => hi z.2), List.getElem?_eq_none (by omega), List.getElem?_eq_none (by omega)]
    · refine .inr ⟨?_, h⟩
      rw [if_neg (fun z => h z.1)]
  have ct : ∀ i : Nat, isCt ρe[i]? = true → isCt ρ[i]? = true := fun i h => by
    cases e : ρe[i]? with
    | none => rw [e] at h; cases h
    | some o => cases o with
      | none => rw [e] at h; cases h
      | some s => cases s with
        | im d => rw [e] at h; cases h
        | own c => exact isCt_of_OM (isOM_wipe (sub i (by rw [e]; rfl))).1
        | chg c => exact isCt_of_OM (isOM_wipe (sub i (by rw [e]; rfl))).1
        | bor c => rw [(wipeS_some (bc.bor i c e)).1]; rfl
  refine ⟨⟨by rw [backS_length, hl]; exact rp.len, fun i s e => ?_, fun i j a hij h1 h2 h3 h4 => ?_, re.ext, re.tabs⟩, ext, fun i h => ?_, ⟨fun i c h => ?_, fun i c h => ?_⟩⟩
  · rcases key i with ⟨k, hv⟩ | ⟨k, hv⟩
    · rw [k] at e
      have hv : i ∈ vs := by
        rcases hv with hv | hv
        · exact hv
        · rw [hv] at e; cases e
      obtain ⟨v, h1, h2⟩ := rp.slot i s e
      refine ⟨v, h1, h2.keep ext.still fun hc a o ev ea ht => ext.keep a o ea (fun w => ?_) ht⟩
      subst ev
      rcases hW a w with ⟨j, q1, q2⟩ | w
      · obtain ⟨q3, q4⟩ := isOM_wipe q1
        exact rp.sep j i a (fun z => q4 (by rw [z]; exact hv)) q3 (by rw [e]; exact hc) (wipe_some' q2).1 h1
      · exact w i (by rw [e]; exact hc) h1
    · rw [k] at e
      obtain ⟨v, h1, h2⟩ := re.slot i s e
      exact ⟨v, (wipe_some' h1).1, h2⟩
  · refine rp.sep i j a hij ?_ ?_ h3 h4
    · rcases key i with ⟨k, hv⟩ | ⟨k, hv⟩
      · rw [k] at h1; exact h1
      · rw [k] at h1; exact (isOM_wipe (sub i h1)).1
    · rcases key j with ⟨k, hv⟩ | ⟨k, hv⟩
      · rw [k] at h2; exact h2
      · rw [k] at h2; exact ct j h2
  · rcases key i with ⟨k, hv⟩ | ⟨k, hv⟩
    · rw [k] at h; exact h
    · rw [k] at h; exact (isOM_wipe (sub i h)).1
  · rcases key i with ⟨k, hv⟩ | ⟨k, hv⟩
    · rw [k] at h; exact h
    · rw [k] at h; exact (wipeS_some (bc.bor i c h)).1
  · rcases key i with ⟨k, hv⟩ | ⟨k, hv⟩
    · rw [k] at h; exact ⟨c, h⟩
    · rw [k] at h
      obtain ⟨c0, h0⟩ := bc.chg i c h
      exact ⟨c0, (wipeS_some h0).1⟩
theorem unl_key (sub : ∀ i : Nat, isOM ρ2[i]? = true → isOM (lockS ρ is)[i]? = true) (bc : BC (lockS ρ is) ρ2) (i : Nat) :
    ((unlock ρ2 ρ is)[i]? = ρ[i]? ∧ i ∈ is ∧ isCt ρ[i]? = true) ∨ ((unlock ρ2 ρ is)[i]? = ρ2[i]? ∧ (i ∈ is → isCt ρ2[i]? = false)) := by
    rw [unlock_get]
    by_cases h : i ∈ is
    · rw [if_pos h]
      have om : isOM ρ2[i]? = false := by
        cases q : isOM ρ2[i]? with
        | false => rfl
        | true => exact absurd h (isOM_lock (sub i q)).2
      cases e : ρ2[i]? with
      | none => exact .inr ⟨rfl, fun _ => rfl⟩
      | some o => cases o with
        | none => exact .inr ⟨rfl, fun _ => rfl⟩
        | some s => cases s with
          | im d => exact .inr ⟨rfl, fun _ => rfl⟩
          | own c => rw [e] at om; cases om
          | chg c => rw [e] at om; cases om
          | bor c =>
            have q := bc.bor i c e
            rw [lockS_get, if_pos h] at q
            refine .inl ?_
            unfold lockO at q
            split at q
            · rename_i c1 e1; cases q; rw [e1]; exact ⟨rfl, h, rfl⟩
            · rename_i c1 e1; cases q; rw [e1]; exact ⟨rfl, h, rfl⟩
            · rw [q]; exact ⟨rfl, h, rfl⟩
    · rw [if_neg h]
      exact .inr ⟨rfl, fun z => absurd z h⟩
theorem ct_of (sub : ∀ i : Nat, isOM ρ2[i]? = true → isOM ρ[i]? = true) (bc : BC ρ ρ2) {i : Nat} (h : isCt ρ2[i]? = true) : isCt ρ[i]? = true := by
  cases e : ρ2[i]? with
  | none => rw [e] at h; cases h
  | some o => cases o with
    | none => rw [e] at h; cases h
    | some s => cases s with
      | im d => rw [e] at h; cases h
      | own c => exact isCt_of_OM (sub i (by rw [e]; rfl))
      | chg c => exact isCt_of_OM (sub i (by rw [e]; rfl))
      | bor c => rw [bc.bor i c e]; rfl
theorem unl_sub (sub : ∀ i : Nat, isOM ρ2[i]? = true → isOM (lockS ρ is)[i]? = true) (bc : BC (lockS ρ is) ρ2) : ∀ i : Nat, isOM (unlock ρ2 ρ is)[i]? = true → isOM ρ[i]? = true := fun i h => by
  rcases unl_key sub bc i with ⟨k, _⟩ | ⟨k, _⟩
  · rw [k] at h; exact h
  · rw [k] at h; exact (isOM_lock (sub i h)).1
theorem unl_bc (sub : ∀ i : Nat, isOM ρ2[i]? = true → isOM (lockS ρ is)[i]? = true) (bc : BC (lockS ρ is) ρ2) : BC ρ (unlock ρ2 ρ is) := by
  refine ⟨fun i c h => ?_, fun i c h => ?_⟩
  · rcases unl_key sub bc i with ⟨k, _⟩ | ⟨k, hv⟩
    · rw [k] at h; exact h
    · rw [k] at h
      have q := bc.bor i c h
      rw [lockS_get, if_neg (fun z => by have := hv z; rw [h] at this; cases this)] at q
      exact q
  · rcases unl_key sub bc i with ⟨k, _⟩ | ⟨k, hv⟩
    · rw [k] at h; exact ⟨c, h⟩
    · rw [k] at h
      obtain ⟨c0, q⟩ := bc.chg i c h
      rw [lockS_get, if_neg (fun z => by have := hv z; rw [h] at this; cases this)] at q
      exact ⟨c0, q⟩
theorem unl_sep (rp : Rp G H1 σ ρ) (sub : ∀ i : Nat, isOM ρ2[i]? = true → isOM ρ[i]? = true) (bc : BC ρ ρ2) (i j : Nat) (a : Addr) (hij : i ≠ j) (h1 : isOM ρ2[i]? = true) (h2 : isCt ρ2[j]? = true) (h3 : σ[i]? = some (some (V.ref a))) : σ[j]? ≠ some (some (V.ref a)) :=
  rp.sep i j a hij (sub i h1) (ct_of sub bc h2) h3
/-- the walked slots are one's own again -/
theorem unlock_stp {W : Addr → Prop} (rp : Rp G H1 σ ρ) (st : Blk G W σ (lockS ρ is) H1 ρ2 H2) (hW : ∀ a, W a → OA σ (lockS ρ is) a ∨ NoS σ ρ a) : Blk G W σ ρ H1 (unlock ρ2 ρ is) H2 := by
  have hl : ρ2.length = ρ.length := by rw [← st.rp.len, rp.len]
  have sub := unl_sub st.sub st.bc
  have bc := unl_bc st.sub st.bc
  refine ⟨⟨by rw [unlock_length, hl]; exact rp.len, fun i s e => ?_, unl_sep rp sub bc, st.rp.ext, st.rp.tabs⟩, st.ext, sub, bc⟩
  rcases unl_key st.sub st.bc i with ⟨k, hi, hc⟩ | ⟨k, hv⟩
  · rw [k] at e
    obtain ⟨v, h1, h2⟩ := rp.slot i s e
    refine ⟨v, h1, h2.keep st.ext.still fun _ a o ev ea ht => st.ext.keep a o ea (fun w => ?_) ht⟩
    subst ev
    rcases hW a w with w | w
    · exact rp.lock_no hi hc h1 w
    · exact w i hc h1
  · rw [k] at e
    exact st.rp.slot i s e

/-! ### a slot gets a container -/
theorem Rp.forget (r : Rp G H σ ρ) (vs : List Nat) : Rp G H σ (wipeS ρ vs) where
  len := by rw [wipeS_length]; exact r.len
  slot := fun i s e => r.slot i s (wipeS_some e).1
  sep := fun i j a hij h1 h2 h3 h4 => r.sep i j a hij (isOM_wipe h1).1 (isCt_wipe h2).1 h3 h4
  ext := r.ext
  tabs := r.tabs
theorem om_set {i j : Nat} {o : Option Sl} (h : isOM (ρ.set i o)[j]? = true) : (j = i ∧ isOM (some o) = true) ∨ (j ≠ i ∧ isOM ρ[j]? = true) := by
  rw [set_get] at h
  split at h
  · rename_i e; exact .inl ⟨e.1, h⟩
  · rename_i e
    by_cases z : j = i
    · subst z
      have : ρ[j]? = none := List.getElem?_eq_none (by have := fun q => e ⟨rfl, q⟩; omega)
      rw [this] at h; cases h
    · exact .inr ⟨z, h⟩
theorem ct_set {i j : Nat} {o : Option Sl} (h : isCt (ρ.set i o)[j]? = true) : (j = i ∧ isCt (some o) = true) ∨ (j ≠ i ∧ isCt ρ[j]? = true) := by
  rw [set_get] at h
  split at h
  · rename_i e; exact .inl ⟨e.1, h⟩
  · rename_i e
    by_cases z : j = i
    · subst z
      have : ρ[j]? = none := List.getElem?_eq_none (by have := fun q => e ⟨rfl, q⟩; omega)
      rw [this] at h; cases h
    · exact .inr ⟨z, h⟩
/-- a slot is told anew -/
theorem Rp.put (r : Rp G H σ ρ) {i : Nat} {s : Sl} {v : V} (hσ : σ[i]? = some (some v)) (ok : SlOk G H v s)
    (h1 : isOM (some (some s)) = true → ∀ a j, v = .ref a → j ≠ i → isCt ρ[j]? = true → σ[j]? ≠ some (some (V.ref a))) (h2 : isCt (some (some s)) = true → ∀ a j, v = .ref a → j ≠ i → isOM ρ[j]? = true → σ[j]? ≠ some (some (V.ref a))) : Rp G H σ (ρ.set i (some s)) where
  len := by rw [List.length_set]; exact r.len
  slot := fun j s' e => by
    rcases get_set e with ⟨e1, e2, _⟩ | ⟨_, e2⟩
    · cases e2; subst e1; exact ⟨v, hσ, ok⟩
    · exact r.slot j s' e2
  sep := fun j k a hjk q1 q2 q3 q4 => by
    rcases om_set q1 with ⟨e1, q5⟩ | ⟨e1, q5⟩
    · rcases ct_set q2 with ⟨e2, q6⟩ | ⟨e2, q6⟩
      · exact hjk (e1.trans e2.symm)
      · subst e1
        rw [hσ] at q3; cases q3
        exact h1 q5 a k rfl e2 q6 q4
    · rcases ct_set q2 with ⟨e2, q6⟩ | ⟨e2, q6⟩
      · subst e2
        rw [hσ] at q4; cases q4
        exact h2 q6 a j rfl e1 q5 q3
      · exact r.sep j k a hjk q5 q6 q3 q4
  ext := r.ext
  tabs := r.tabs
theorem lock_one {i : Nat} {c : Ct} (h : ρ[i]? = some (some (.own c))) : lockS ρ [i] = ρ.set i (some (.bor c)) := by
  unfold lockS
  rw [h]
  rfl
/-- a dict of one's own is locked -/
theorem lock_dict (rp : Rp G H1 σ ρ) {i : Nat} {kvs : List (D × D)} {d : Addr} {xs : List (Key × V)} (od : Obj) (hi : ρ[i]? = some (some (.own (.dct kvs)))) (hσ : σ[i]? = some (some (.ref d))) (hd : H1 d = some (.dK xs)) (kv : KvAll G.K H1 xs kvs) (h0 : G.H0 d = none) :
    Rp G (upd H1 d (.frz od (.dK xs))) σ (lockS ρ [i]) := by
  have soft : Soft (H1 d) := by rw [hd]; trivial
  have om : isOM ρ[i]? = true := by rw [hi]; rfl
  have r1 : Rp G (upd H1 d (.frz od (.dK xs))) σ (wipeS ρ [i]) := (rp.forget [i]).upd soft (.inr h0) fun j hj z => by
    obtain ⟨q1, q2⟩ := isCt_wipe hj
    exact rp.sep i j d (fun e => q2 (by rw [e]; exact List.mem_singleton.mpr rfl)) om q1 hσ z
  have r2 := r1.put (i := i) (s := .bor (.dct kvs)) hσ ⟨d, rfl, xs, .inr ⟨od, upd_same⟩, kv.still (.upd soft)⟩ (fun z => by cases z) (fun _ a j e hj hm z => by
    cases e
    exact rp.sep i j d (Ne.symm hj) om (isCt_of_OM (isOM_wipe hm).1) hσ z)
  rw [lock_one hi]
  show Rp G _ σ (ρ.set i (some (.bor (.dct kvs))))
  have e : (wipeS ρ [i]).set i (some (.bor (.dct kvs))) = ρ.set i (some (.bor (.dct kvs))) := by
    show ((wipeS ρ []).set i none).set i _ = _
    rw [List.set_set]
    rfl
  rw [e] at r2
  exact r2
/-- .. and it is one's own again -/
theorem unlock_dict (rp : Rp G H1 σ ρ) {i : Nat} {kvs : List (D × D)} {d : Addr} {xs : List (Key × V)} {od : Obj} (hi : ρ[i]? = some (some (.own (.dct kvs)))) (hσ : σ[i]? = some (some (.ref d))) (hd : H1 d = some (.dK xs)) (kv : KvAll G.K H1 xs kvs) (h0 : G.H0 d = none)
    (st : Stp G σ (lockS ρ [i]) (upd H1 d (.frz od (.dK xs))) ρ2 H2) : H2 d = some (.frz od (.dK xs)) ∧ Stp G σ ρ H1 (unlock ρ2 ρ [i]) (upd H2 d (.dK xs)) := by
  have soft : Soft (H1 d) := by rw [hd]; trivial
  have om : isOM ρ[i]? = true := by rw [hi]; rfl
  have oa : OA σ ρ d := ⟨i, om, hσ⟩
  have no : ¬ OA σ (lockS ρ [i]) d := rp.lock_no (List.mem_singleton.mpr rfl) (isCt_of_OM om) hσ
  have e2 : H2 d = some (.frz od (.dK xs)) := st.ext.keep d _ upd_same no fun ps z => by cases z
  have soft2 : Soft (H2 d) := by rw [e2]; exact ⟨xs, rfl⟩
  have sub := unl_sub st.sub st.bc
  have bc := unl_bc st.sub st.bc
  have ext : Ext (OA σ ρ) H1 (upd H2 d (.dK xs)) := ((Ext.upd soft (.inl oa)).trans st.ext fun a z => .inl z.lock).trans (Ext.upd soft2 (.inl oa)) fun a z => .inl z
  have len : σ.length = (unlock ρ2 ρ [i]).length := by rw [unlock_length]; exact st.rp.len
  refine ⟨e2, ⟨⟨len, fun j s e => ?_, unl_sep rp sub bc, ?_, fun P hP => ?_⟩, ext, sub, bc⟩⟩
  · rcases unl_key st.sub st.bc j with ⟨k, hj, hc⟩ | ⟨k, hv⟩
    · rw [k] at e
      obtain rfl := List.mem_singleton.mp hj
      rw [hi] at e
      cases e
      exact ⟨_, hσ, d, rfl, ⟨xs, upd_same, kv.still ext.still⟩, h0⟩
    · rw [k] at e
      obtain ⟨v, h1, h2⟩ := st.rp.slot j s e
      refine ⟨v, h1, h2.keep (.upd soft2) fun hc a o ev ea ht => ?_⟩
      subst ev
      rw [upd_ne fun z => ?_]
      · exact ea
      · subst z
        have cj : isCt ρ[j]? = true := by
          have := ct_of st.sub st.bc (i := j) (by rw [e]; exact hc)
          rwa [isCt_lock] at this
        by_cases hj : j = i
        · have := hv (by rw [hj]; exact List.mem_singleton.mpr rfl)
          rw [e, hc] at this
          cases this
        · exact rp.sep i j _ (Ne.symm hj) om cj hσ h1
  · exact st.rp.ext.trans (Ext.upd (W := fun a => G.H0 a = none) soft2 (.inl h0)) fun a z => .inr z
  · obtain ⟨ps, q1, q2⟩ := st.rp.tabs P hP
    exact ⟨ps, by rw [upd_ne fun z => by subst z; rw [e2] at q1; cases q1]; exact q1, q2⟩
end

/-! ### what is walked -/
structure ItOk (K : PySem.W.Frag) (J : It) (W : Addr → Prop) (H1 : Hp) (xs : List D) : Prop where
  go : ∀ i x H, xs[i]? = some x → Ext W H1 H → J.go i H ∧ ∀ v H2, J.yld i H v H2 → Same H H2 ∧ Dn K H2 v x
  stop : ∀ i H, xs.length ≤ i → Ext W H1 H → J.stop i H
section
variable {X : Cx} {G : Gh} {H H1 H2 : Hp} {σ : L2.St} {ρ ρ1 ρ2 : Sv} {K : PySem.W.Frag} {W : Addr → Prop} {e tg a b : Expr} {pos : Pos}
/-- a list that is walked: it is not changed meanwhile -/
def SqW (K : PySem.W.Frag) (W : Addr → Prop) (H : Hp) (p : Addr) (vs : List V) : Prop :=
  (Rd H p (.lst vs) ∧ ¬ W p) ∨ ∃ (o : Obj) (its : Array Value) (n : Nat), K.lookup p = some o ∧ o.cls = .type "list" ∧ o.dict = none ∧ o.data = .seq its n ∧ its.size ≤ sizeLine ∧ Vals vs its.toList
theorem SqW.sq {p : Addr} {vs : List V} (h : SqW K W H1 p vs) : SqL K H1 p vs := h.imp (·.1) id
theorem SqW.keep {p : Addr} {vs : List V} (h : SqW K W H1 p vs) (ext : Ext W H1 H) : SqL K H p vs := by
  rcases h with ⟨h, hw⟩ | h
  · exact .inl (rd_keep h (fun o e t => ext.keep p o e hw t) fun ps z => by cases z)
  · exact .inr h
theorem SqW.mono {W' : Addr → Prop} {p : Addr} {vs : List V} (h : SqW K W H1 p vs) (hw : ∀ c, W' c → W c) : SqW K W' H1 p vs := h.imp (fun h => ⟨h.1, fun z => h.2 (hw _ z)⟩) id
theorem it_list {p : Addr} {vs : List V} {xs : List D} (h : SqW K W H1 p vs) (d : DnAll K H1 vs xs) : ItOk K (Itl K p) W H1 xs where
  go := fun i x H e ext => by
    obtain ⟨v, hv, dv⟩ := d.get e
    have q := h.keep ext
    refine ⟨⟨vs, v, q, hv⟩, fun u H2 ⟨e2, y⟩ => ?_⟩
    subst e2
    have := y vs q
    rw [hv] at this
    cases this
    exact ⟨.refl _, dv.still ext.still⟩
  stop := fun i H hl ext => ⟨vs, h.keep ext, by rw [d.length]; exact hl⟩
theorem it_tup {p : Addr} {vs : List V} {xs : List D} (h : SqT K H1 p vs) (d : DnAll K H1 vs xs) : ItOk K (Itt K p) W H1 xs where
  go := fun i x H e ext => by
    obtain ⟨v, hv, dv⟩ := d.get e
    have q := ext.still.sqt h
    refine ⟨⟨vs, v, q, hv⟩, fun u H2 ⟨e2, y⟩ => ?_⟩
    subst e2
    have := y vs q
    rw [hv] at this
    cases this
    exact ⟨.refl _, dv.still ext.still⟩
  stop := fun i H hl ext => ⟨vs, ext.still.sqt h, by rw [d.length]; exact hl⟩
theorem rangeD_get : ∀ {n i : Nat} {lo : Int} {x : D}, (rangeD lo n)[i]? = some x → i < n ∧ x = .int (lo + i)
  | 0, i, lo, x, h => by simp [rangeD] at h
  | n + 1, 0, lo, x, h => by simp [rangeD] at h; exact ⟨Nat.zero_lt_succ _, by simp [← h]⟩
  | n + 1, i + 1, lo, x, h => by
    have h : (rangeD (lo + 1) n)[i]? = some x := by simpa [rangeD] using h
    obtain ⟨h1, h2⟩ := rangeD_get h
    exact ⟨Nat.succ_lt_succ h1, by rw [h2]; congr 1; omega⟩
theorem rangeD_length : ∀ (lo : Int) (n : Nat), (rangeD lo n).length = n
  | _, 0 => rfl
  | lo, n + 1 => by rw [rangeD, List.length_cons, rangeD_length]
theorem it_range {lo : Int} {n : Nat} : ItOk K (Itr lo n) W H1 (rangeD lo n) where
  go := fun i x H e ext => by
    obtain ⟨h1, h2⟩ := rangeD_get e
    refine ⟨h1, fun v H2 ⟨e2, y⟩ => ?_⟩
    subst e2 y h2
    exact ⟨.refl _, .int _⟩
  stop := fun i H hl ext => by rw [rangeD_length] at hl; exact hl
theorem it_keys {d : Addr} {o : Obj} {xs : List (Key × V)} {kvs : List (D × D)} (h : H1 d = some (.frz o (.dK xs))) (kv : KvAll K H1 xs kvs) (hw : ¬ W d) : ItOk K (Itk d o xs) W H1 (kvs.map (·.1)) where
  go := fun i x H e ext => by
    have hk := ext.keep d _ h hw fun ps z => by cases z
    have dk := kv.keys
    obtain ⟨v, hv, dv⟩ := dk.get e
    rw [List.getElem?_map] at hv
    cases ep : xs[i]? with
    | none => rw [ep] at hv; cases hv
    | some p =>
      rw [ep] at hv
      cases hv
      refine ⟨⟨hk, (List.getElem?_eq_some_iff.mp ep).1⟩, fun u H2 ⟨e2, k, w, e3, e4⟩ => ?_⟩
      subst e2 e4
      rw [ep] at e3
      cases e3
      exact ⟨.refl _, dv.still ext.still⟩
  stop := fun i H hl ext => ⟨ext.keep d _ h hw (fun ps z => by cases z), by rw [kv.length]; simpa using hl⟩

/-- a list that is no slot's -/
def Frn (σ : L2.St) (ρ : Sv) (H : Hp) (c : Addr) : Prop := (∃ xs, H c = some (.lst xs)) ∧ NoS σ ρ c
theorem Frn.at (st : Stp G σ ρ H ρ1 H1) {c : Addr} (h : Frn σ ρ H c) : ∃ xs, H1 c = some (.lst xs) := let ⟨⟨xs, h1⟩, h2⟩ := h; ⟨xs, st.ext.keep c _ h1 (fun ⟨i, q1, q2⟩ => h2 i (isCt_of_OM q1) q2) fun ps z => by cases z⟩
/-- a source that is walked, the slots of is locked -/
def rdI (X : Cx) (G : Gh) (is : List Nat) (f : Sv → R (List D × Sv)) : TI := fun σ H Rr => ∃ ρ, Rp G H σ ρ ∧ Out3 X G σ ρ H (f ρ) fun r => ∀ J H1, Stp G σ ρ H r.2 H1 → (∀ W : Addr → Prop, (∀ c, W c → OA σ (lockS r.2 is) c ∨ H1 c = none ∨ Frn σ ρ H c) → ItOk G.K J W H1 r.1) → Rr J H1
theorem itemsE_ne (c : Cn) (x : Ex) (ρ : Sv) : itemsE c ≠ .exc x ρ := by
  unfold itemsE
  split <;> exact fun z => by cases z
theorem OA_lock_nil {a : Addr} (h : OA σ (lockS ρ []) a) : OA σ ρ a := h
/-- a frozen list is none that may be changed -/
theorem FzL.w {p : Addr} {vs : List V} (rp : Rp G H1 σ ρ1) (h : FzL G.K H1 p vs) (hW : ∀ c, W c → OA σ ρ1 c ∨ H1 c = none ∨ ∃ xs, H1 c = some (.lst xs)) : SqW G.K W H1 p vs := by
  rcases h with ⟨oo, h⟩ | h
  · refine .inl ⟨.inr ⟨oo, h⟩, fun w => ?_⟩
    rcases hW p w with ⟨j, q1, q2⟩ | w | ⟨xs, w⟩
    · cases ej : ρ1[j]? with
      | none => rw [ej] at q1; cases q1
      | some oo => cases oo with
        | none => rw [ej] at q1; cases q1
        | some sj =>
          obtain ⟨w, hw, ok⟩ := rp.slot j sj ej
          rw [hw] at q2
          cases q2
          rw [ej] at q1
          have no : ∀ c, ¬ CtAt G.K H1 p c := fun c hc => by
            cases c with
            | lst ds => obtain ⟨xs, z, _⟩ := hc; rw [h] at z; cases z
            | dct ds => obtain ⟨xs, z, _⟩ := hc; rw [h] at z; cases z
            | set ds => obtain ⟨S, n, z, _⟩ := hc; rw [h] at z; cases z
          cases sj with
          | own c => obtain ⟨b, z, hc, _⟩ := ok; cases z; exact no c hc
          | chg c => obtain ⟨b, z, hc, _⟩ := ok; cases z; exact no c hc
          | im d => cases q1
          | bor c => cases q1
    · rw [h] at w; cases w
    · rw [h] at w; cases w
  · exact .inr h
/-- a value that is walked -/
theorem walk_val {r : Sl × Sv} {v : V} {xs : List D} (st : Stp G σ ρ H r.2 H1) (rv : RvOk G σ ρ H r.2 H1 v r.1) (hW : ∀ c, W c → OA σ r.2 c ∨ H1 c = none ∨ Frn σ ρ H c) : (r.1.cn = .dat (.list xs) → ∃ p vs, v = .ref p ∧ SqW G.K W H1 p vs ∧ DnAll G.K H1 vs xs) ∧
    (r.1.cn = .dat (.tuple xs) → ∃ p vs, v = .ref p ∧ SqT G.K H1 p vs ∧ DnAll G.K H1 vs xs) := by
  have hW2 : ∀ c, W c → OA σ r.2 c ∨ H1 c = none ∨ ∃ xs, H1 c = some (.lst xs) := fun c w => (hW c w).imp id (Or.imp id fun z => z.at st)
  obtain ⟨sl, ρ1⟩ := r
  cases sl with
  | im d =>
    have rv : Dn G.K H1 v d := rv
    refine ⟨fun e => ?_, fun e => ?_⟩
    · cases e
      obtain ⟨p, vs, rfl, h1, h2⟩ := rv.list
      exact ⟨p, vs, rfl, h1.w st.rp hW2, h2⟩
    · cases e
      obtain ⟨p, vs, rfl, h1, h2⟩ := rv.tuple
      exact ⟨p, vs, rfl, h1, h2⟩
  | own c =>
    obtain ⟨p, rfl, hc, _, hp, hn⟩ := rv
    cases c with
    | lst ds =>
      obtain ⟨vs, h1, h2⟩ := hc
      refine ⟨fun e => ?_, fun e => by cases e⟩
      cases e
      refine ⟨p, vs, rfl, .inl ⟨.of h1, fun w => ?_⟩, h2⟩
      rcases hW p w with ⟨j, q1, q2⟩ | w | ⟨⟨ys, w1⟩, w2⟩
      · exact hn j (isCt_of_OM q1) q2
      · rw [h1] at w; cases w
      · rcases hp with hp | ⟨j, q1, q2⟩
        · rw [hp] at w1; cases w1
        · exact w2 j (isCt_of_OM q1) q2
    | dct kvs => exact ⟨(fun e => by cases e), fun e => by cases e⟩
    | set ys => exact ⟨(fun e => by cases e), fun e => by cases e⟩
  | bor c => exact False.elim rv
  | chg c => exact False.elim rv
theorem pi_itE {f : Sv → R (Sl × Sv)} (hK : X.K = G.K) (ha : PE X e (rdV X G f)) : PI X tg e (rdI X G [] fun ρ => f ρ >>= fun r => itemsE r.1.cn >>= fun xs => .ok (xs, r.2)) := by
  refine ⟨fun pins s σ H Rr I ⟨ρ, rp, o⟩ => ?_⟩
  have o := Out3.bind o
  by_cases hl : ∃ r xs, f ρ = .ok r ∧ r.1.cn = .dat (.list xs)
  · obtain ⟨r, xs, e1, e2⟩ := hl
    refine (pi_list ha).run pins s σ H Rr I ⟨ρ, rp, ?_⟩
    rw [e1] at o ⊢
    change Out3 X G σ ρ H (itemsE r.1.cn >>= fun xs => R.ok (xs, r.2)) _ at o
    rw [e2] at o
    intro v H1 st rv
    obtain ⟨p, vs, rfl, h1, h2⟩ := (walk_val (W := fun _ => False) (xs := xs) st rv (fun _ z => z.elim)).1 e2
    refine ⟨p, rfl, ⟨vs, hK ▸ h1.sq⟩, o _ H1 st fun W hW => ?_⟩
    obtain ⟨p', vs', e3, h1', h2'⟩ := (walk_val (xs := xs) st rv hW).1 e2
    cases e3
    rw [hK]; exact it_list h1' h2'
  · refine (pi_tup ha).run pins s σ H Rr I ⟨ρ, rp, o.mono fun r e1 q v H1 st rv => ?_⟩
    obtain ⟨xs, e2, q⟩ := (Out3.bind q).get (itemsE_ne _)
    have e3 : r.1.cn = .dat (.tuple xs) := by
      cases ec : r.1.cn with
      | dat d => cases d with
        | list ds => exact absurd ⟨r, ds, e1, ec⟩ hl
        | tuple ds => rw [ec] at e2; cases e2; rfl
        | _ => rw [ec] at e2; cases e2
      | dct kvs => rw [ec] at e2; cases e2
      | set ys => rw [ec] at e2; cases e2
    obtain ⟨p, vs, rfl, h1, h2⟩ := (walk_val (W := fun _ => False) (xs := xs) st rv (fun _ z => z.elim)).2 e3
    exact ⟨p, rfl, ⟨vs, hK ▸ h1⟩, q _ H1 st fun W hW => by rw [hK]; exact it_tup h1 h2⟩
theorem walk_slot {i : Nat} {c : Cn} {xs : List D} (rp : Rp G H σ ρ) (h : slotC ρ i = .ok c) (hW : ∀ c, W c → OA σ (lockS ρ [i]) c ∨ H c = none ∨ Frn σ ρ H c) : (c = .dat (.list xs) → ∃ p vs, σ[i]? = some (some (V.ref p)) ∧ SqW G.K W H p vs ∧ DnAll G.K H vs xs) ∧
    (c = .dat (.tuple xs) → ∃ p vs, σ[i]? = some (some (V.ref p)) ∧ SqT G.K H p vs ∧ DnAll G.K H vs xs) := by
  unfold slotC getS at h
  cases e : ρ[i]? with
  | none => rw [e] at h; cases h
  | some o => cases o with
    | none => rw [e] at h; cases h
    | some s =>
      rw [e] at h
      have h : R.ok s.cn = R.ok c := h
      cases h
      obtain ⟨v, hv, ok⟩ := rp.slot i s e
      have no : isCt ρ[i]? = true → ∀ {p : Addr} {vs : List V}, v = V.ref p → Rd H p (.lst vs) → ¬ W p := fun hc p vs ev rd w => by
        rcases hW p w with w | w | w
        · exact rp.lock_no (List.mem_singleton.mpr rfl) hc (by rw [hv, ev]) w
        · rcases rd with rd | ⟨o, rd⟩ <;> rw [rd] at w <;> cases w
        · exact w.2 i hc (by rw [hv, ev])
      have fin : ∀ {c : Ct}, isCt ρ[i]? = true → (∃ a, v = .ref a ∧ CtRd G.K H a c) → (c.cn = .dat (.list xs) → ∃ p vs, σ[i]? = some (some (V.ref p)) ∧ SqW G.K W H p vs ∧ DnAll G.K H vs xs) ∧
          (c.cn = .dat (.tuple xs) → ∃ p vs, σ[i]? = some (some (V.ref p)) ∧ SqT G.K H p vs ∧ DnAll G.K H vs xs) := fun {c} hc ⟨p, e, h1⟩ => by
        subst e
        cases c with
        | lst ds =>
          obtain ⟨vs, h1, h2⟩ := h1
          refine ⟨fun z => ?_, fun z => by cases z⟩
          cases z
          exact ⟨p, vs, hv, .inl ⟨h1, no hc rfl h1⟩, h2⟩
        | dct kvs => exact ⟨(fun z => by cases z), fun z => by cases z⟩
        | set ys => exact ⟨(fun z => by cases z), fun z => by cases z⟩
      cases s with
      | im d =>
        refine ⟨fun z => ?_, fun z => ?_⟩
        · cases z
          obtain ⟨p, vs, rfl, h1, h2⟩ := Dn.list ok
          exact ⟨p, vs, hv, h1.w rp fun c w => (hW c w).imp (fun z => z.lock) (Or.imp id (·.1)), h2⟩
        · cases z
          obtain ⟨p, vs, rfl, h1, h2⟩ := Dn.tuple ok
          exact ⟨p, vs, hv, h1, h2⟩
      | own c => obtain ⟨p, e1, h1, _⟩ := ok; exact fin (by rw [e]; rfl) ⟨p, e1, h1.rd⟩
      | chg c => obtain ⟨p, e1, h1, _⟩ := ok; exact fin (by rw [e]; rfl) ⟨p, e1, h1.rd⟩
      | bor c => exact fin (by rw [e]; rfl) ok
theorem pi_itS {i : Nat} (hK : X.K = G.K) (ha : PE X e (tVar i)) : PI X tg e (rdI X G [i] fun ρ => slotC ρ i >>= fun c => itemsE c >>= fun xs => .ok (xs, ρ)) := by
  refine ⟨fun pins s σ H Rr I ⟨ρ, rp, o⟩ => ?_⟩
  obtain ⟨c, e1, o⟩ := (Out3.bind o).get (slotC_ne _ _)
  obtain ⟨xs, e2, o⟩ := (Out3.bind o).get (itemsE_ne _)
  cases c with
  | dct kvs => cases e2
  | set ys => cases e2
  | dat d => cases d with
    | list ds =>
      have e3 : ds = xs := R.ok.inj e2
      subst e3
      obtain ⟨p, vs, hv, h1, h2⟩ := (walk_slot (W := fun _ => False) (xs := ds) rp e1 (fun _ z => z.elim)).1 rfl
      refine (pi_list ha).run pins s σ H Rr I ⟨_, hv, p, rfl, ⟨vs, hK ▸ h1.sq⟩, o _ H (.refl rp) fun W hW => ?_⟩
      obtain ⟨p', vs', hv', h1', h2'⟩ := (walk_slot (xs := ds) rp e1 hW).1 rfl
      rw [hv] at hv'
      cases hv'
      rw [hK]; exact it_list h1' h2'
    | tuple ds =>
      have e3 : ds = xs := R.ok.inj e2
      subst e3
      obtain ⟨p, vs, hv, h1, h2⟩ := (walk_slot (W := fun _ => False) (xs := ds) rp e1 (fun _ z => z.elim)).2 rfl
      exact (pi_tup ha).run pins s σ H Rr I ⟨_, hv, p, rfl, ⟨vs, hK ▸ h1⟩, o _ H (.refl rp) fun W hW => by rw [hK]; exact it_tup h1 h2⟩
    | _ => cases e2
theorem range62_ok {i : Int} (h : range62 i = true) : -(2 ^ 62) ≤ i ∧ i < 2 ^ 62 := by
  unfold range62 at h
  have h1 := of_decide_eq_true h
  omega
theorem pi_rng1 {f : Sv → R (D × Sv)} {p : Pos} (hg : Gl X "range") (hm : X.mg "range" = none) (ha : PE X a (rdD X G f)) (hs : notStar a = true) :
    PI X tg (.Call (.Name "range" p) [a] [] pos) (rdI X G [] fun ρ => f ρ >>= fun r => match r.1 with
      | .int i => guardR (range62 i) (.ok (rangeD 0 i.toNat, r.2))
      | _ => .bad) := by
  refine ⟨fun pins s σ H Rr I ⟨ρ, rp, o⟩ => (pi_range1 hg hm (pa_cons ha pa_nil (star_one hs)) (star_one hs)).run pins s σ H Rr I ⟨ρ, rp, (Out3.bind o).mono fun r _ q v H1 st dn => ?_⟩⟩
  obtain ⟨d, ρ1⟩ := r
  cases d with
  | int j =>
    obtain ⟨g, q⟩ := Out3.guard q
    obtain ⟨g1, g2⟩ := range62_ok g
    obtain rfl := dn.int_eq
    exact ⟨j, rfl, g1, g2, q _ H1 st fun W hW => it_range⟩
  | _ => exact False.elim q
theorem pi_rng2 {f g : Sv → R (D × Sv)} {p : Pos} (hg : Gl X "range") (hm : X.mg "range" = none) (ha : PE X a (rdD X G f)) (hb : PE X b (rdD X G g)) (hs : notStar a = true) (hs2 : notStar b = true) :
    PI X tg (.Call (.Name "range" p) [a, b] [] pos) (rdI X G [] fun ρ => f ρ >>= fun r => g r.2 >>= fun r2 => match r.1, r2.1 with
      | .int i, .int j => guardR (range62 i && range62 j) (.ok (rangeD i (j - i).toNat, r2.2))
      | _, _ => .bad) := by
  refine ⟨fun pins s σ H Rr I ⟨ρ, rp, o⟩ => (pi_range2 hg hm (pa_cons ha (pa_cons hb pa_nil (star_one hs2)) (star_one hs)) (by rw [star_one hs, star_one hs2]; rfl) (by rw [star_one hs2]; rfl)).run pins s σ H Rr I
    ⟨ρ, rp, (Out3.bind o).mono fun r _ q v H1 st dn => ⟨r.2, st.rp, (Out3.later st (Out3.bind q)).mono fun r2 _ q v2 H2 st2 dn2 => ?_⟩⟩⟩
  obtain ⟨d, ρ1⟩ := r
  obtain ⟨d2, ρ2⟩ := r2
  cases d with
  | int i => cases d2 with
    | int j =>
      obtain ⟨gg, q⟩ := Out3.guard q
      obtain ⟨g1, g2⟩ := Bool.and_eq_true_iff.mp gg
      obtain rfl := dn.int_eq
      obtain rfl := dn2.int_eq
      exact ⟨i, j, rfl, ⟨(range62_ok g1).1, (range62_ok g1).2, (range62_ok g2).1, (range62_ok g2).2⟩, q _ H2 (st.trans st2) fun W hW => it_range⟩
    | _ => exact False.elim q
  | _ => exact False.elim q
end
end Wk

set_option Elab.async false
set_option linter.all false
set_option maxRecDepth 100000
set_option maxHeartbeats 4000000
/-! targets; list comprehensions -/
namespace Wk
open PySem PySem.Spec PyProof.Rows L2

/-! ### targets -/
theorem len_set {ρ : Sv} {i : Nat} {o : Option Sl} : (ρ.set i o).length = ρ.length := List.length_set
mutual
theorem bindP_im : ∀ {p : Pt} {d : D} {ρ ρ1 : Sv}, bindP p (.im d) ρ = .ok ρ1 → ρ1.length = ρ.length ∧ (∀ j, j ∉ p.slots → ρ1[j]? = ρ[j]?) ∧ ∀ j, j ∈ p.slots → isCt ρ1[j]? = false
  | .v i, d, ρ, ρ1, h => by
    have h : R.ok (ρ.set i (some (.im d))) = .ok ρ1 := by simpa [bindP] using h
    cases h
    refine ⟨len_set, fun j hj => ?_, fun j hj => ?_⟩
    · rw [set_get, if_neg fun z => hj (by rw [z.1]; simp [Pt.slots])]
    · have hj : j = i := by simpa [Pt.slots] using hj
      subst hj
      rw [set_get]
      split
      · rfl
      · rename_i hn
        rw [List.getElem?_eq_none (by have := fun q => hn ⟨rfl, q⟩; omega)]
        rfl
  | .t ps, .tuple ds, ρ, ρ1, h => by
    have h : bindPs ps ds ρ = .ok ρ1 := by simpa [bindP] using h
    have := bindPs_im h
    simpa [Pt.slots] using this
  | .t ps, .none, _, _, h => by simp [bindP] at h
  | .t ps, .bool _, _, _, h => by simp [bindP] at h
  | .t ps, .int _, _, _, h => by simp [bindP] at h
  | .t ps, .str _, _, _, h => by simp [bindP] at h
  | .t ps, .list _, _, _, h => by simp [bindP] at h
  | .t ps, .dict _, _, _, h => by simp [bindP] at h
theorem bindPs_im : ∀ {ps : List Pt} {ds : List D} {ρ ρ1 : Sv}, bindPs ps ds ρ = .ok ρ1 → ρ1.length = ρ.length ∧ (∀ j, j ∉ Pt.slotss ps → ρ1[j]? = ρ[j]?) ∧ ∀ j, j ∈ Pt.slotss ps → isCt ρ1[j]? = false
  | [], [], ρ, ρ1, h => by
    have h : R.ok ρ = .ok ρ1 := by simpa [bindPs] using h
    cases h
    exact ⟨rfl, fun _ _ => rfl, fun j hj => by simp [Pt.slotss] at hj⟩
  | [], _ :: _, _, _, h => by simp [bindPs] at h
  | _ :: _, [], _, _, h => by simp [bindPs] at h
  | p :: ps, d :: ds, ρ, ρ1, h => by
    have h : (bindP p (.im d) ρ >>= fun ρ1 => bindPs ps ds ρ1) = .ok ρ1 := by simpa [bindPs] using h
    obtain ⟨ρ2, e1, e2⟩ := R.bind_ok h
    obtain ⟨a1, a2, a3⟩ := bindP_im e1
    obtain ⟨b1, b2, b3⟩ := bindPs_im e2
    refine ⟨b1.trans a1, fun j hj => ?_, fun j hj => ?_⟩
    · have hj : j ∉ p.slots ∧ j ∉ Pt.slotss ps := by simpa [Pt.slotss] using hj
      rw [b2 j hj.2, a2 j hj.1]
    · by_cases h2 : j ∈ Pt.slotss ps
      · exact b3 j h2
      · have hj : j ∈ p.slots := by
          rcases (by simpa [Pt.slotss] using hj : j ∈ p.slots ∨ j ∈ Pt.slotss ps) with h | h
          · exact h
          · exact absurd h h2
        rw [b2 j h2]
        exact a3 j hj
end
/-- the slots' values but at vs -/
def Off (vs : List Nat) (σ σ' : L2.St) : Prop := σ'.length = σ.length ∧ ∀ i, i ∉ vs → σ'[i]? = σ[i]?
theorem Off.refl {vs : List Nat} {σ : L2.St} : Off vs σ σ := ⟨rfl, fun _ _ => rfl⟩
theorem Off.trans {vs : List Nat} {σ σ1 σ2 : L2.St} (a : Off vs σ σ1) (b : Off vs σ1 σ2) : Off vs σ σ2 := ⟨b.1.trans a.1, fun i h => (b.2 i h).trans (a.2 i h)⟩
theorem Off.mono {vs ws : List Nat} {σ σ1 : L2.St} (a : Off vs σ σ1) (h : ∀ i ∈ vs, i ∈ ws) : Off ws σ σ1 := ⟨a.1, fun i hi => a.2 i fun z => hi (h i z)⟩
theorem Off.wipe {vs : List Nat} {σ σ1 : L2.St} (a : Off vs σ σ1) : wipe σ1 vs = wipe σ vs := by
  apply List.ext_getElem?
  intro i
  rw [wipe_get, wipe_get, a.1]
  by_cases h : i ∈ vs
  · by_cases hi : i < σ.length
    · simp [h, hi]
    · rw [if_neg (fun z => hi z.2), if_neg (fun z => hi z.2), List.getElem?_eq_none (by rw [a.1]; omega), List.getElem?_eq_none (by omega)]
  · rw [if_neg (fun z => h z.1), if_neg (fun z => h z.1), a.2 i h]
section
variable {X : Cx} {G : Gh} {H H1 H2 : Hp} {σ σ' : L2.St} {ρ ρ1 ρ2 : Sv}
/-- a slot gets a value -/
theorem Rp.assign (r : Rp G H σ ρ) {i : Nat} {s : Sl} {v : V} (ok : SlOk G H v s)
    (h1 : isOM (some (some s)) = true → ∀ a j, v = .ref a → j ≠ i → isCt ρ[j]? = true → σ[j]? ≠ some (some (V.ref a))) (h2 : isCt (some (some s)) = true → ∀ a j, v = .ref a → j ≠ i → isOM ρ[j]? = true → σ[j]? ≠ some (some (V.ref a))) : Rp G H (σ.set i (some v)) (ρ.set i (some s)) where
  len := by rw [List.length_set, List.length_set]; exact r.len
  slot := fun j s' e => by
    rcases get_set e with ⟨e1, e2, e3⟩ | ⟨e1, e2⟩
    · cases e2; subst e1
      exact ⟨v, by rw [set_get, if_pos ⟨rfl, by rw [r.len]; exact e3⟩], ok⟩
    · obtain ⟨w, h1, h2⟩ := r.slot j s' e2
      exact ⟨w, by rw [set_get, if_neg (fun z => e1 z.1)]; exact h1, h2⟩
  sep := fun j k a hjk q1 q2 q3 q4 => by
    have back : ∀ {l : Nat}, l ≠ i → (σ.set i (some v))[l]? = σ[l]? := fun {l} hl => by rw [set_get, if_neg (fun z => hl z.1)]
    have here : ∀ {l : Nat} {b : Addr}, l = i → (σ.set i (some v))[l]? = some (some (V.ref b)) → i < ρ.length → v = .ref b := fun {l b} hl z hlt => by
      rw [set_get, if_pos ⟨hl, by rw [r.len]; exact hlt⟩] at z
      cases z; rfl
    rcases om_set q1 with ⟨e1, q5⟩ | ⟨e1, q5⟩
    · rcases ct_set q2 with ⟨e2, q6⟩ | ⟨e2, q6⟩
      · exact hjk (e1.trans e2.symm)
      · have hlt : i < ρ.length := by
          by_cases z : i < ρ.length
          · exact z
          · rw [e1, set_get, if_neg (fun y => z y.2), List.getElem?_eq_none (by omega)] at q1; cases q1
        rw [back e2] at q4
        exact h1 q5 a k (here e1 q3 hlt) e2 q6 q4
    · rcases ct_set q2 with ⟨e2, q6⟩ | ⟨e2, q6⟩
      · have hlt : i < ρ.length := by
          by_cases z : i < ρ.length
          · exact z
          · rw [e2, set_get, if_neg (fun y => z y.2), List.getElem?_eq_none (by omega)] at q2; cases q2
        rw [back e1] at q3
        exact h2 q6 a j (here e2 q4 hlt) e1 q5 q3
      · rw [back e1] at q3
        rw [back e2] at q4
        exact r.sep j k a hjk q5 q6 q3 q4
  ext := r.ext
  tabs := r.tabs
theorem Off.set {i : Nat} {v : V} : Off [i] σ (σ.set i (some v)) := ⟨List.length_set, fun j h => by rw [set_get, if_neg (fun z => h (by rw [z.1]; exact List.mem_singleton.mpr rfl))]⟩
/-- a datum is bound -/
def rdG (G : Gh) (p : Pt) : TG := fun v σ H Q => ∃ x ρ ρ', Rp G H σ ρ ∧ Dn G.K H v x ∧ bindP p (.im x) ρ = .ok ρ' ∧ ∀ σ', Rp G H σ' ρ' → Off p.slots σ σ' → Q σ' H
def rdGs (G : Gh) (ps : List Pt) : TGs := fun vs σ H Q => ∃ xs ρ ρ', Rp G H σ ρ ∧ DnAll G.K H vs xs ∧ bindPs ps xs ρ = .ok ρ' ∧ ∀ σ', Rp G H σ' ρ' → Off (Pt.slotss ps) σ σ' → Q σ' H
theorem pg_v {i : Nat} {x : Str} {pos : Pos} (hN : X.N.Nodup) (hi : X.N[i]? = some x) (hx : Loc X.env.scope x) (hf : X.fn x = true ∨ X.env.scope.names.lookup x = some .local) : PG X (.Name x pos) (rdG G (.v i)) := by
  refine ⟨fun pins s σ H v u Q I r ⟨d, ρ, ρ', rp, dn, e, q⟩ => (pg_name hN hi hx hf).run pins s σ H v u Q I r ?_⟩
  have e : R.ok (ρ.set i (some (.im d))) = .ok ρ' := by simpa [bindP] using e
  cases e
  exact q _ (rp.assign (s := .im d) dn (fun z => by cases z) (fun z => by cases z)) (by simpa [Pt.slots] using Off.set)
theorem pgs_n : PGs X [] (rdGs G []) := by
  refine ⟨fun pins s σ H vs us Q I r ⟨xs, ρ, ρ', rp, dn, e, q⟩ => pgs_nil.run pins s σ H vs us Q I r ?_⟩
  cases xs with
  | nil =>
    cases dn
    have e : R.ok ρ = .ok ρ' := by simpa [bindPs] using e
    cases e
    exact ⟨rfl, q σ rp .refl⟩
  | cons => simp [bindPs] at e
theorem pgs_c {p : Pt} {ps : List Pt} {e : Expr} {es : List Expr} (h1 : PG X e (rdG G p)) (h2 : PGs X es (rdGs G ps)) (hs : (assignEach (e :: es) X.env).map (·.2) = assign e X.env :: (assignEach es X.env).map (·.2)) : PGs X (e :: es) (rdGs G (p :: ps)) := by
  refine ⟨fun pins s σ H vs us Q I r ⟨xs, ρ, ρ', rp, dn, e, q⟩ => (pgs_cons h1 h2 hs).run pins s σ H vs us Q I r ?_⟩
  cases xs with
  | nil => simp [bindPs] at e
  | cons x xs =>
    cases dn with
    | cons d1 d2 =>
      have e : (bindP p (.im x) ρ >>= fun ρ1 => bindPs ps xs ρ1) = .ok ρ' := by simpa [bindPs] using e
      obtain ⟨ρ1, e1, e2⟩ := R.bind_ok e
      refine ⟨_, _, rfl, x, ρ, ρ1, rp, d1, e1, fun σ1 r1 o1 => ⟨xs, ρ1, ρ', r1, d2, e2, fun σ2 r2 o2 => q σ2 r2 ?_⟩⟩
      exact (o1.mono fun i hi => by simp [Pt.slotss, hi]).trans (o2.mono fun i hi => by simp [Pt.slotss, hi])
theorem pg_t {ps : List Pt} {es : List Expr} {k : Nat} {pos : Pos} (hK : X.K = G.K) (hc : X.calm = true) (h : PGs X es (rdGs G ps)) (hl : es.length = ps.length) (hn : ∀ env, (assignEach es env).length = es.length) (hst : (assignEach es X.env).findIdx? (·.1) = none) : PG X (.Tuple es k pos) (rdG G (.t ps)) := by
  refine ⟨fun pins s σ H v u Q I r ⟨d, ρ, ρ', rp, dn, e, q⟩ => (pg_tup hc h (hn _) hst).run pins s σ H v u Q I r ?_⟩
  cases d with
  | tuple ds =>
    have e : bindPs ps ds ρ = .ok ρ' := by simpa [bindP] using e
    obtain ⟨a, vs, rfl, h1, h2⟩ := dn.tuple
    have hlen : ∀ {ps : List Pt} {ds : List D} {ρ ρ' : Sv}, bindPs ps ds ρ = .ok ρ' → ds.length = ps.length := by
      intro ps
      induction ps with
      | nil => intro ds ρ ρ' e; cases ds with
        | nil => rfl
        | cons => simp [bindPs] at e
      | cons p ps ih => intro ds ρ ρ' e; cases ds with
        | nil => simp [bindPs] at e
        | cons d ds =>
          have e : (bindP p (.im d) ρ >>= fun ρ1 => bindPs ps ds ρ1) = .ok ρ' := by simpa [bindPs] using e
          obtain ⟨ρ1, e1, e2⟩ := R.bind_ok e
          simp [ih e2]
    exact ⟨a, vs, rfl, hK ▸ h1, by rw [h2.length, hlen e, hl], ds, ρ, ρ', rp, h2, e, fun σ' r' o => q σ' r' (by simpa [Pt.slots] using o)⟩
  | _ => simp [bindP] at e

/-! ### readings without exceptions -/
def nD (G : Gh) (f : Sv → R (D × Sv)) : TE := fun σ H Q => ∃ ρ r, Rp G H σ ρ ∧ f ρ = .ok r ∧ ∀ v H', Stp G σ ρ H r.2 H' → Dn G.K H' v r.1 → Q v H'
def nT (G : Gh) (f : Sv → R (Bool × Sv)) : TT := fun σ H Q => ∃ ρ r, Rp G H σ ρ ∧ f ρ = .ok r ∧ ∀ H', Stp G σ ρ H r.2 H' → Q r.1 H'
theorem pe_nD {e : Expr} {f : Sv → R (D × Sv)} (h : PE X e (rdD X G f)) : PE X e (nD G f) := ⟨fun pins s σ H Q I ⟨ρ, r, rp, e, q⟩ => h.run pins s σ H Q I ⟨ρ, rp, by rw [e]; exact q⟩⟩
theorem pt_nT {e : Expr} {f : Sv → R (Bool × Sv)} (h : PT X e (rdT X G f)) : PTs X [e] (nT G f) := pts_one ⟨fun pins s σ H Q I ⟨ρ, r, rp, e, q⟩ => h.run pins s σ H Q I ⟨ρ, rp, by rw [e]; exact q⟩⟩
theorem pt_nil : PTs X [] (nT G fun ρ => .ok (true, ρ)) := ⟨fun pins s σ H Q I ⟨ρ, r, rp, e, q⟩ => pts_nil.run pins s σ H Q I (by cases e; exact q H (.refl rp))⟩
end

/-! ### the turns -/
section
variable {G : Gh} {H H1 H2 : Hp} {σ : L2.St} {ρ ρl ρe : Sv} {vs : List Nat} {p : Pt} {fc : Sv → R (Bool × Sv)} {fe : Sv → R (D × Sv)}
theorem BC.wipe (ρ : Sv) (vs : List Nat) : BC ρ (wipeS ρ vs) := ⟨fun i c h => (wipeS_some h).1, fun i c h => ⟨c, (wipeS_some h).1⟩⟩
theorem BC.bind {d : D} {ρ ρ1 : Sv} (h : bindP p (.im d) ρ = .ok ρ1) : BC ρ ρ1 := by
  obtain ⟨h1, h2, h3⟩ := bindP_im h
  refine ⟨fun i c e => ?_, fun i c e => ?_⟩
  · by_cases hi : i ∈ p.slots
    · have := h3 i hi; rw [e] at this; cases this
    · rw [← h2 i hi]; exact e
  · by_cases hi : i ∈ p.slots
    · have := h3 i hi; rw [e] at this; cases this
    · exact ⟨c, by rw [← h2 i hi]; exact e⟩
theorem om_bind {d : D} {ρ ρ1 : Sv} (h : bindP p (.im d) ρ = .ok ρ1) {i : Nat} (e : isOM ρ1[i]? = true) : isOM ρ[i]? = true ∧ i ∉ p.slots := by
  obtain ⟨h1, h2, h3⟩ := bindP_im h
  by_cases hi : i ∈ p.slots
  · have := h3 i hi; rw [isCt_of_OM e] at this; cases this
  · rw [h2 i hi] at e; exact ⟨e, hi⟩
/-- a turn's start: the target is bound -/
theorem Blk.turn {W W2 : Addr → Prop} {ρ0 ρi ρ1 : Sv} {x : D} {H' : Hp} {σ2 : L2.St} (b : Blk G W (wipe σ vs) ρ0 H1 ρi H) (hW : ∀ a, OA (wipe σ vs) ρ0 a → W a) (sm : Same H H') (e : bindP p (.im x) ρi = .ok ρ1) (of : Off p.slots (wipe σ vs) σ2) (hs : ∀ i ∈ p.slots, i ∈ vs) {ρ3 : Sv} {H3 : Hp}
    (st : Blk G W2 σ2 ρ1 H' ρ3 H3) (hW2 : ∀ a, W2 a → OA σ2 ρ1 a ∨ W a) : wipe σ2 vs = wipe σ vs ∧ Blk G W (wipe σ vs) ρ0 H1 (wipeS ρ3 vs) H3 := by
  have hw : wipe σ2 vs = wipe σ vs := by
    have := (of.mono hs).wipe
    rw [this]
    apply List.ext_getElem?
    intro i
    rw [wipe_get, wipe_get, wipe_length]
    split <;> rfl
  have oa : ∀ a, W2 a → W a := fun a w => by
    rcases hW2 a w with ⟨j, q1, q2⟩ | w
    · obtain ⟨q3, q4⟩ := om_bind e q1
      exact hW a ⟨j, b.sub j q3, by rw [← of.2 j q4]; exact q2⟩
    · exact w
  refine ⟨hw, ⟨by rw [← hw]; exact st.rp.wipe vs, (b.ext.trans (Ext.of_same (W := W) sm) fun a z => .inl z).trans st.ext fun a z => .inl (oa a z), fun i h => ?_, ?_⟩⟩
  · obtain ⟨h1, _⟩ := isOM_wipe h
    exact b.sub i (om_bind e (st.sub i h1)).1
  · exact ((b.bc.trans (.bind e)).trans st.bc).trans (.wipe _ _)
/-- the block's places are not L -/
theorem Blk.no {W : Addr → Prop} {ρ0 ρi : Sv} {L : Addr} (b : Blk G W σ ρ0 H1 ρi H) (hn : NoS σ ρ0 L) : NoS σ ρi L := fun i h z => hn i (ct_of b.sub b.bc h) z
theorem NoS.bind {σ2 : L2.St} {ρi ρ1 : Sv} {x : D} {L : Addr} (h : NoS (wipe σ vs) ρi L) (e : bindP p (.im x) ρi = .ok ρ1) (of : Off p.slots (wipe σ vs) σ2) : NoS σ2 ρ1 L := fun i hi z => by
  obtain ⟨h1, h2, h3⟩ := bindP_im e
  by_cases hp : i ∈ p.slots
  · rw [h3 i hp] at hi; cases hi
  · rw [h2 i hp] at hi
    rw [of.2 i hp] at z
    exact h i hi z
theorem Blk.put {W : Addr → Prop} {ρ0 ρi : Sv} {L : Addr} {o' : HO} (b : Blk G W σ ρ0 H1 ρi H) (hn : NoS σ ρ0 L) (h0 : G.H0 L = none) (hw : W L) (soft : Soft (H L)) : Blk G W σ ρ0 H1 ρi (upd H L o') :=
  ⟨b.rp.upd soft (.inr h0) fun i hi => b.no hn i hi, b.ext.trans (Ext.upd (W := W) soft (.inl hw)) fun a z => .inl z, b.sub, b.bc⟩
theorem keepL {ρ1 ρ3 : Sv} {H' H3 : Hp} {σ2 : L2.St} {L : Addr} {o : HO} (hn : NoS σ2 ρ1 L) (st : Stp G σ2 ρ1 H' ρ3 H3) (ho : H' L = some o) (ht : ∀ ps, o ≠ .tbl ps) : H3 L = some o :=
  st.ext.keep L o ho (fun ⟨j, q1, q2⟩ => hn j (isCt_of_OM q1) q2) ht
theorem drop_cons {α : Type} {xs : List α} {i : Nat} (h : i < xs.length) : ∃ x, xs[i]? = some x ∧ xs.drop i = x :: xs.drop (i + 1) := ⟨xs[i], by simp [h], (List.drop_eq_getElem_cons h)⟩
/-- a list comprehension's turns, from a list that may have items -/
theorem lc_turns {W : Addr → Prop} {J : It} {xs ys acc0 : List D} {accV0 : List V} {ρ0 : Sv} {Hs : Hp} {L : Addr} {Qd : Hp → Prop} (hW : ∀ a, OA (wipe σ vs) ρ0 a → W a) (hWL : W L) (hn : NoS (wipe σ vs) ρ0 L) (h0 : G.H0 L = none)
    (it : ItOk G.K J W H1 xs) (b0 : Blk G W (wipe σ vs) ρ0 H1 ρ0 Hs) (hs0 : Hs L = some (.lst accV0)) (ha0 : DnAll G.K Hs accV0 acc0)
    (ev : loopC p fc fe vs xs ρ0 = .ok (ys, ρe)) (hy : acc0.length + ys.length ≤ lineN) (hs : ∀ i ∈ p.slots, i ∈ vs)
    (fin : ∀ H2 accV, Blk G W (wipe σ vs) ρ0 H1 ρe H2 → H2 L = some (.lst accV) → DnAll G.K H2 accV (acc0 ++ ys) → Qd H2) :
    ∃ W : Nat → Nat → Hp → Prop, (∃ m, W 0 m Hs) ∧ ∀ i m H, W i m H →
      (J.stop i H ∧ Qd H) ∨ (J.go i H ∧ ∃ Nx : Hp → Prop, (∀ H', Nx H' → ∃ m', m' < m ∧ W (i + 1) m' H') ∧ ∀ x H', J.yld i H x H' → rdG G p x (wipe σ vs) H' fun σ2 H2 => wipe σ2 vs = wipe σ vs ∧ nT G fc σ2 H2 fun b H3 =>
        if b = true then nD G fe σ2 H3 fun y H4 => ∃ acc, H4 L = some (.lst acc) ∧ acc.length < sizeLine ∧ Nx (upd H4 L (.lst (acc ++ [y]))) else Nx H3) := by
  let P : Nat → Hp → Prop := fun i H => ∃ ρi acc accV rest, Blk G W (wipe σ vs) ρ0 H1 ρi H ∧ H L = some (.lst accV) ∧ DnAll G.K H accV acc ∧ acc ++ rest = acc0 ++ ys ∧ loopC p fc fe vs (xs.drop i) ρi = .ok (rest, ρe)
  refine ⟨fun i m H => m = xs.length - i ∧ i ≤ xs.length ∧ P i H, ⟨xs.length, by simp, Nat.zero_le _, ρ0, acc0, accV0, ys, b0, hs0, ha0, rfl, by rw [List.drop_zero]; exact ev⟩, ?_⟩
  rintro i m H ⟨rfl, hi, ρi, acc, accV, rest, b, hL, ha, hr, el⟩
  by_cases hlt : i < xs.length
  · refine .inr ?_
    obtain ⟨x, ex, ed⟩ := drop_cons hlt
    rw [ed] at el
    obtain ⟨ρ1, e1, el⟩ := R.bind_ok el
    obtain ⟨⟨c, ρ2⟩, e2, el⟩ := R.bind_ok el
    obtain ⟨hgo, hyl⟩ := it.go i x H ex b.ext
    refine ⟨hgo, P (i + 1), fun H' p' => ⟨xs.length - (i + 1), by omega, rfl, hlt, p'⟩, fun v H' y => ?_⟩
    obtain ⟨sm, dv⟩ := hyl v H' y
    refine ⟨x, ρi, ρ1, b.rp.same sm, dv, e1, fun σ2 r2 of => ?_⟩
    refine ⟨(b.turn hW sm e1 of hs (Stp.refl r2).blk fun a z => .inl z).1, ρ1, (c, ρ2), r2, e2, fun H3 st => ?_⟩
    have hL' : H' L = some (.lst accV) := sm L _ hL
    have hn1 : NoS σ2 ρ1 L := (b.no hn).bind e1 of
    cases c with
    | false =>
      show P (i + 1) H3
      obtain ⟨hw, b2⟩ := b.turn hW sm e1 of hs st.blk fun a z => .inl z
      have e3 : loopC p fc fe vs (xs.drop (i + 1)) (wipeS ρ2 vs) = .ok (rest, ρe) := el
      exact ⟨_, acc, accV, rest, b2, keepL hn1 st hL' (fun ps z => by cases z), ha.still (Still.trans (.of_same sm) st.ext.still), hr, e3⟩
    | true =>
      show nD G fe σ2 H3 _
      have el : (fe ρ2 >>= fun r3 => loopC p fc fe vs (xs.drop (i + 1)) (wipeS r3.2 vs) >>= fun r4 => R.ok (r3.1 :: r4.1, r4.2)) = .ok (rest, ρe) := el
      obtain ⟨⟨d, ρ3⟩, e3, el⟩ := R.bind_ok el
      obtain ⟨⟨rest', ρe'⟩, e4, el⟩ := R.bind_ok el
      cases el
      refine ⟨ρ2, (d, ρ3), st.rp, e3, fun y H4 st2 dy => ?_⟩
      have st3 := st.trans st2
      obtain ⟨hw, b2⟩ := b.turn hW sm e1 of hs st3.blk fun a z => .inl z
      have hL4 := keepL hn1 st3 hL' (fun ps z => by cases z)
      have hlen : accV.length < sizeLine := by
        have h1 := ha.length
        have h2 := congrArg List.length hr
        rw [List.length_append, List.length_cons, List.length_append] at h2
        have := lineN_le
        omega
      have soft : Soft (H4 L) := by rw [hL4]; trivial
      refine ⟨accV, hL4, hlen, wipeS ρ3 vs, acc ++ [d], accV ++ [y], rest', b2.put hn h0 hWL soft, upd_same, ?_, by rw [← hr]; simp, e4⟩
      exact ((ha.still (Still.trans (.of_same sm) st3.ext.still)).append (.cons dy .nil)).still (.upd soft)
  · have e : i = xs.length := by omega
    subst e
    rw [List.drop_length] at el
    cases el
    rw [List.append_nil] at hr
    subst hr
    exact .inl ⟨it.stop _ H (Nat.le_refl _) b.ext, fin H accV b hL ha⟩
/-- a source without exceptions -/
def nI (G : Gh) (is : List Nat) (f : Sv → R (List D × Sv)) : TI := fun σ H Rr => ∃ ρ r, Rp G H σ ρ ∧ f ρ = .ok r ∧ ∀ J H1, Stp G σ ρ H r.2 H1 → (∀ W : Addr → Prop, (∀ c, W c → OA σ (lockS r.2 is) c ∨ H1 c = none ∨ Frn σ ρ H c) → ItOk G.K J W H1 r.1) → Rr J H1
theorem pi_nI {X : Cx} {tg e : Expr} {is : List Nat} {f : Sv → R (List D × Sv)} (h : PI X tg e (rdI X G is f)) : PI X tg e (nI G is f) := ⟨fun pins s σ H Rr I ⟨ρ, r, rp, e, q⟩ => h.run pins s σ H Rr I ⟨ρ, rp, by rw [e]; exact q⟩⟩
/-- the inner loop's function -/
def innerR (p : Pt) (is : List Nat) (f : Sv → R (List D × Sv)) (fc : Sv → R (Bool × Sv)) (fe : Sv → R (D × Sv)) (ρ : Sv) : R (List D × Sv) := f ρ >>= fun r2 =>
  loopC p fc fe p.slots r2.1 (wipeS (lockS r2.2 is) p.slots) >>= fun q => .ok (q.1, unlock (backS q.2 (lockS r2.2 is) p.slots) r2.2 is)
/-- .. of two clauses -/
theorem lc2_turns {W : Addr → Prop} {J : It} {xs ys acc0 : List D} {accV0 : List V} {ρ0 : Sv} {Hs : Hp} {L : Addr} {Qd : Hp → Prop} {p1 : Pt} {is1 : List Nat} {f1 : Sv → R (List D × Sv)} {fc1 : Sv → R (Bool × Sv)}
    (hW : ∀ a, OA (wipe σ vs) ρ0 a → W a) (hWL : W L) (hn : NoS (wipe σ vs) ρ0 L) (h0 : G.H0 L = none)
    (it : ItOk G.K J W H1 xs) (b0 : Blk G W (wipe σ vs) ρ0 H1 ρ0 Hs) (hs0 : Hs L = some (.lst accV0)) (ha0 : DnAll G.K Hs accV0 acc0)
    (ev : loopCC p fc (innerR p1 is1 f1 fc1 fe) vs xs ρ0 = .ok (ys, ρe)) (hy : acc0.length + ys.length ≤ lineN) (hs : ∀ i ∈ p.slots, i ∈ vs) (hs1 : ∀ i ∈ p1.slots, i ∈ vs)
    (fin : ∀ H2 accV, Blk G W (wipe σ vs) ρ0 H1 ρe H2 → H2 L = some (.lst accV) → DnAll G.K H2 accV (acc0 ++ ys) → Qd H2) :
    ∃ W : Nat → Nat → Hp → Prop, (∃ m, W 0 m Hs) ∧ ∀ i m H, W i m H →
      (J.stop i H ∧ Qd H) ∨ (J.go i H ∧ ∃ Nx : Hp → Prop, (∀ H', Nx H' → ∃ m', m' < m ∧ W (i + 1) m' H') ∧ ∀ x H', J.yld i H x H' → rdG G p x (wipe σ vs) H' fun σ2 H2 => wipe σ2 vs = wipe σ vs ∧ nT G fc σ2 H2 fun b H3 =>
        if b = true then nI G is1 f1 σ2 H3 fun J1 H4 => ∃ W1 : Nat → Nat → Hp → Prop, (∃ m, W1 0 m H4) ∧ ∀ j k H, W1 j k H →
          (J1.stop j H ∧ Nx H) ∨ (J1.go j H ∧ ∃ Nx1 : Hp → Prop, (∀ H', Nx1 H' → ∃ k', k' < k ∧ W1 (j + 1) k' H') ∧ ∀ x H', J1.yld j H x H' → rdG G p1 x (wipe σ2 p1.slots) H' fun σ3 H5 => wipe σ3 p1.slots = wipe σ2 p1.slots ∧ nT G fc1 σ3 H5 fun b H6 =>
            if b = true then nD G fe σ3 H6 fun y H7 => ∃ acc, H7 L = some (.lst acc) ∧ acc.length < sizeLine ∧ Nx1 (upd H7 L (.lst (acc ++ [y]))) else Nx1 H6)
        else Nx H3) := by
  let P : Nat → Hp → Prop := fun i H => ∃ ρi acc accV rest, Blk G W (wipe σ vs) ρ0 H1 ρi H ∧ H L = some (.lst accV) ∧ DnAll G.K H accV acc ∧ acc ++ rest = acc0 ++ ys ∧ loopCC p fc (innerR p1 is1 f1 fc1 fe) vs (xs.drop i) ρi = .ok (rest, ρe)
  refine ⟨fun i m H => m = xs.length - i ∧ i ≤ xs.length ∧ P i H, ⟨xs.length, by simp, Nat.zero_le _, ρ0, acc0, accV0, ys, b0, hs0, ha0, rfl, by rw [List.drop_zero]; exact ev⟩, ?_⟩
  rintro i m H ⟨rfl, hi, ρi, acc, accV, rest, b, hL, ha, hr, el⟩
  by_cases hlt : i < xs.length
  · refine .inr ?_
    obtain ⟨x, ex, ed⟩ := drop_cons hlt
    rw [ed] at el
    obtain ⟨ρ1, e1, el⟩ := R.bind_ok el
    obtain ⟨⟨c, ρ2⟩, e2, el⟩ := R.bind_ok el
    obtain ⟨hgo, hyl⟩ := it.go i x H ex b.ext
    refine ⟨hgo, P (i + 1), fun H' p' => ⟨xs.length - (i + 1), by omega, rfl, hlt, p'⟩, fun v H' y => ?_⟩
    obtain ⟨sm, dv⟩ := hyl v H' y
    refine ⟨x, ρi, ρ1, b.rp.same sm, dv, e1, fun σ2 r2 of => ?_⟩
    refine ⟨(b.turn hW sm e1 of hs (Stp.refl r2).blk fun a z => .inl z).1, ρ1, (c, ρ2), r2, e2, fun H3 st => ?_⟩
    have hL' : H' L = some (.lst accV) := sm L _ hL
    have hn1 : NoS σ2 ρ1 L := (b.no hn).bind e1 of
    have hL3 : H3 L = some (.lst accV) := keepL hn1 st hL' (fun ps z => by cases z)
    have ha3 : DnAll G.K H3 accV acc := ha.still (Still.trans (.of_same sm) st.ext.still)
    cases c with
    | false =>
      show P (i + 1) H3
      obtain ⟨hw, b2⟩ := b.turn hW sm e1 of hs st.blk fun a z => .inl z
      have e3 : loopCC p fc (innerR p1 is1 f1 fc1 fe) vs (xs.drop (i + 1)) (wipeS ρ2 vs) = .ok (rest, ρe) := el
      exact ⟨_, acc, accV, rest, b2, hL3, ha3, hr, e3⟩
    | true =>
      show nI G is1 f1 σ2 H3 _
      have el : (innerR p1 is1 f1 fc1 fe ρ2 >>= fun r3 => loopCC p fc (innerR p1 is1 f1 fc1 fe) vs (xs.drop (i + 1)) (wipeS r3.2 vs) >>= fun r4 => R.ok (r3.1 ++ r4.1, r4.2)) = .ok (rest, ρe) := el
      obtain ⟨⟨zs, ρ5⟩, e3, el⟩ := R.bind_ok el
      obtain ⟨⟨rest', ρe'⟩, e4, el⟩ := R.bind_ok el
      cases el
      obtain ⟨⟨ws, ρ4⟩, e5, e3⟩ := R.bind_ok e3
      obtain ⟨⟨zs', ρq⟩, e6, e3⟩ := R.bind_ok e3
      cases e3
      refine ⟨ρ2, (ws, ρ4), st.rp, e5, fun J1 H4 st2 hit => ?_⟩
      have hn2 : NoS σ2 ρ2 L := fun i hi => hn1 i (st.ct hi)
      have hn4 : NoS σ2 ρ4 L := fun i hi => hn2 i (st2.ct hi)
      have hL4 : H4 L = some (.lst accV) := keepL hn2 st2 hL3 (fun ps z => by cases z)
      have ha4 := ha3.still st2.ext.still
      let W2 : Addr → Prop := fun a => OA (wipe σ2 p1.slots) (wipeS (lockS ρ4 is1) p1.slots) a ∨ a = L
      have rl := (st2.rp.lock is1).wipe p1.slots
      refine lc_turns (σ := σ2) (vs := p1.slots) (W := W2) (H1 := H4) (Hs := H4) (acc0 := acc) (accV0 := accV) (ys := zs') (xs := ws) (ρ0 := wipeS (lockS ρ4 is1) p1.slots) (ρe := ρq) (fun a z => .inl z) (.inr rfl)
        (fun i hi z => hn4 i (by have := (isCt_wipe hi).1; rwa [isCt_lock] at this) (wipe_some' z).1) h0
        (hit W2 fun c w => ?_) ⟨rl, .refl, fun _ z => z, .refl _⟩ hL4 ha4 e6 (by
          have h2 := congrArg List.length hr
          simp only [List.length_append] at h2 hy ⊢
          omega) (fun _ z => z) fun H5 accV5 b5 hL5 ha5 => ?_
      · rcases w with w | w
        · exact .inl w.wipe
        · exact .inr (.inr (by rw [w]; exact ⟨⟨accV, hL3⟩, hn2⟩))
      · -- behind the inner loop
        have c1 := comp_end (st2.rp.lock is1) b5 fun a w => w.imp id fun w => by
          rw [w]; exact fun i hi => hn4 i (by rwa [isCt_lock] at hi)
        have c2 := unlock_stp st2.rp c1 fun a w => w.imp (fun w => w.wipe) fun w => by rw [w]; exact hn4
        have st3 := st.trans st2
        have c3 : Blk G (fun a => OA σ2 ρ1 a ∨ a = L) σ2 ρ1 H' (unlock (backS ρq (lockS ρ4 is1) p1.slots) ρ4 is1) H5 := st3.blk.trans c2 (fun a z => .inl z) fun a z => z.imp (fun z => z.wipe.lock.sub st3.sub) id
        obtain ⟨hw, b2⟩ := b.turn hW sm e1 of hs c3 fun a z => z.imp id fun z => by rw [z]; exact hWL
        exact ⟨_, acc ++ zs', accV5, rest', b2, hL5, ha5, by rw [← hr]; simp, e4⟩
  · have e : i = xs.length := by omega
    subst e
    rw [List.drop_length] at el
    cases el
    rw [List.append_nil] at hr
    subst hr
    exact .inl ⟨it.stop _ H (Nat.le_refl _) b.ext, fin H accV b hL ha⟩
end

theorem Out3.ofBind {X : Cx} {G : Gh} {σ : L2.St} {ρ : Sv} {H : Hp} {β γ : Type} {m : R β} {k : β → R γ} {Pc : γ → Prop} (h : Out3 X G σ ρ H m fun b => Out3 X G σ ρ H (k b) Pc) : Out3 X G σ ρ H (m >>= k) Pc := by
  cases m with
  | ok b => exact h
  | exc x ρ' => exact h
  | bad => exact h
/-! ### the comprehension -/
section
variable {X : Cx} {G : Gh} {elt tg iter : Expr} {ifs : List Expr} {scope : Scope} {own : List (Str × Nat)} {pos : Pos} {p : Pt} {is : List Nat} {f : Sv → R (List D × Sv)} {fc : Sv → R (Bool × Sv)} {fe : Sv → R (D × Sv)}
def lcR (p : Pt) (vs is : List Nat) (fc : Sv → R (Bool × Sv)) (fe : Sv → R (D × Sv)) (r : List D × Sv) : R (Sl × Sv) := (loopC p fc fe vs r.1 (wipeS (lockS r.2 is) vs)).nox >>= fun q =>
  guardR (decide (q.1.length ≤ lineN)) (.ok (.own (.lst q.1), unlock (backS q.2 (lockS r.2 is) vs) r.2 is))
/-- the value of a comprehension -/
theorem lc_ret {σ : L2.St} {ρ ρ1 ρ2 : Sv} {H H1 H2 : Hp} {L : Addr} {accV : List V} {ys : List D} (rp : Rp G H1 σ ρ1) (st : Stp G σ ρ H ρ1 H1) (st2 : Stp G σ ρ1 H1 ρ2 H2) (hD : H1 L = none) (hL : H2 L = some (.lst accV)) (ha : DnAll G.K H2 accV ys) : RvOk G σ ρ H ρ2 H2 (.ref L) (.own (.lst ys)) := by
  refine ⟨L, rfl, ⟨accV, hL, ha⟩, ?_, .inl ?_, fun i hi z => rp.there (ct_of st2.sub st2.bc hi) z hD⟩
  · cases e : G.H0 L with
    | none => rfl
    | some u => exact absurd hD (rp.ext.dom L (by rw [e]; exact fun z => by cases z))
  · cases e : H L with
    | none => rfl
    | some u => exact absurd hD (st.ext.dom L (by rw [e]; exact fun z => by cases z))
theorem h0_of {σ : L2.St} {ρ : Sv} {H1 : Hp} {L : Addr} (rp : Rp G H1 σ ρ) (hD : H1 L = none) : G.H0 L = none := by
  cases e : G.H0 L with
  | none => rfl
  | some u => exact absurd hD (rp.ext.dom L (by rw [e]; exact fun z => by cases z))
theorem Blk.fin {W : Addr → Prop} {σ : L2.St} {ρ1 ρe : Sv} {vs : List Nat} {H1 H2 : Hp} {L : Addr} (rp : Rp G H1 σ ρ1) (hD : H1 L = none) (b : Blk G W (wipe σ vs) (wipeS (lockS ρ1 is) vs) H1 ρe H2) (hW : ∀ a, W a → OA (wipe σ vs) (wipeS (lockS ρ1 is) vs) a ∨ a = L) : Stp G σ ρ1 H1 (unlock (backS ρe (lockS ρ1 is) vs) ρ1 is) H2 := by
  have hn : NoS σ ρ1 L := fun i hi z => rp.there hi z hD
  have c1 := comp_end (rp.lock is) b fun a w => (hW a w).imp id fun w => by rw [w]; exact fun i hi => hn i (by rwa [isCt_lock] at hi)
  have c2 := unlock_stp rp c1 fun a w => (hW a w).imp (fun w => w.wipe) fun w => by rw [w]; exact hn
  exact (c2.mono fun a w => (hW a w).imp (fun w => w.wipe.lock) fun w => by rw [w]; exact hD).stp
/-- the places that a comprehension may change -/
def lcW (σ : L2.St) (ρl : Sv) (vs : List Nat) (L : Addr) (a : Addr) : Prop := OA (wipe σ vs) (wipeS ρl vs) a ∨ a = L
theorem lc_start {σ : L2.St} {ρl : Sv} {H1 : Hp} {vs : List Nat} {L : Addr} {o : HO} (rp : Rp G H1 σ ρl) (hD : H1 L = none) : Blk G (lcW σ ρl vs L) (wipe σ vs) (wipeS ρl vs) H1 (wipeS ρl vs) (upd H1 L o) :=
  ⟨(rp.wipe vs).same (same_new hD), .upd (by rw [hD]; trivial) (.inr hD), fun _ h => h, .refl _⟩
theorem lc_no {σ : L2.St} {ρl : Sv} {H1 : Hp} {vs : List Nat} {L : Addr} (rp : Rp G H1 σ ρl) (hD : H1 L = none) : NoS (wipe σ vs) (wipeS ρl vs) L := fun i hi z => (rp.wipe vs).there hi z hD
/-- the comprehension's reading, from its source's -/
theorem lc_read {σ : L2.St} {H : Hp} {Q : VK} (hs : ∀ i ∈ p.slots, i ∈ own.map (·.2))
    (h : ∃ ρ, Rp G H σ ρ ∧ Out3 X G σ ρ H (f ρ >>= fun r => lcR p (own.map (·.2)) is fc fe r) fun r => ∀ v H', Stp G σ ρ H r.2 H' → RvOk G σ ρ H r.2 H' v r.1 → Q v H') : tLc (rdI X G is f) (rdG G p) (nT G fc) (nD G fe) (own.map (·.2)) σ H Q := by
  obtain ⟨ρ, rp, o⟩ := h
  refine ⟨ρ, rp, (Out3.bind o).mono fun r _ q J H1 st hit L hD => ?_⟩
  cases ev : loopC p fc fe (own.map (·.2)) r.1 (wipeS (lockS r.2 is) (own.map (·.2))) with
  | bad => unfold lcR at q; rw [ev] at q; exact False.elim q
  | exc x ρ' => unfold lcR at q; rw [ev] at q; exact False.elim q
  | ok qq =>
    obtain ⟨ys, ρe⟩ := qq
    unfold lcR at q
    rw [ev] at q
    obtain ⟨g, q⟩ := Out3.guard q
    have hy : ys.length ≤ lineN := of_decide_eq_true g
    have rl := st.rp.lock is
    refine lc_turns (W := lcW σ (lockS r.2 is) (own.map (·.2)) L) (fun a z => .inl z) (.inr rfl) (lc_no rl hD) (h0_of rl hD) (hit _ fun c z => z.imp (fun z => z.wipe) fun z => .inl (by rw [z]; exact hD)) (lc_start rl hD) upd_same .nil ev (by simpa using hy) hs fun H2 accV b hL ha => ?_
    have st2 := Blk.fin st.rp hD b fun a z => z
    exact q _ H2 (st.trans st2) (lc_ret st.rp st st2 hD hL ha)
end
section
variable {X : Cx} {G : Gh} {elt tg iter : Expr} {ifs : List Expr} {scope : Scope} {own : List (Str × Nat)} {pos : Pos} {p : Pt} {is : List Nat} {f : Sv → R (List D × Sv)} {fc : Sv → R (Bool × Sv)} {fe : Sv → R (D × Sv)}
def notSet : Expr → Bool
  | .Set _ _ _ => false
  | _ => true
theorem not_set {e : Expr} (h : notSet e = true) (env : PySem.Env) (x : Value) : foldedSetIterable e env x = pure x := by
  cases e <;> first | rfl | cases h
/-- the parts of a comprehension's block -/
structure LcP (X : Cx) (G : Gh) (elt tg : Expr) (ifs : List Expr) (scope : Scope) (own : List (Str × Nat)) (p : Pt) (fc : Sv → R (Bool × Sv)) (fe : Sv → R (D × Sv)) : Prop where
  ok : BlkOk X.N X.env.scope scope own
  hg : ∀ (s : Shared) (H : Hp) (C : Addr) (cl : List (Str × Addr)) (fp : List Addr), PG (X.blk s H scope (compEnvC scope cl C X.env) fp) tg (rdG G p)
  ht : ∀ (s : Shared) (H : Hp) (C : Addr) (cl : List (Str × Addr)) (fp : List Addr), PTs (X.blk s H scope (compEnvC scope cl C X.env) fp) ifs (nT G fc)
  he : ∀ (s : Shared) (H : Hp) (C : Addr) (cl : List (Str × Addr)) (fp : List Addr), PE (X.blk s H scope (compEnvC scope cl C X.env) fp) elt (nD G fe)
  hs : ∀ i ∈ p.slots, i ∈ own.map (·.2)
/-- name = e, the store in the comprehension's end -/
structure PU (X : Cx) (e : Expr) (te : TE) : Prop where
  run : ∀ (i : Nat) (y : Str) (py spos : Pos), X.N[i]? = some y → X.env.scope.names.lookup y = some .local → swapsWith e (some (.Name y py)) spos.line X.env = pure true →
    ∀ (pins : List (Addr × Obj)) (s : Shared) (σ : L2.St) (H : Hp) (D : Ends), Inv X pins σ H s → te σ H (fun x H1 => D.nx (σ.set i (some x)) H1) → wpAny (model X.prog X.w) X.A (exec (.Assign [.Name y py] e spos) X.env) (SP X pins D) X.xe s
structure PB (X : Cx) (e : Expr) (te : TE) : Prop where
  pe : PE X e te
  pu : PU X e te
theorem PB.or {e : Expr} {t1 t2 t : TE} (h1 : PB X e t1) (h2 : PB X e t2) (h : ∀ σ H Q, t σ H Q → t1 σ H Q ∨ t2 σ H Q) : PB X e t where
  pe := ⟨fun pins s σ H Q I q => (h σ H Q q).elim (h1.pe.run pins s σ H Q I) (h2.pe.run pins s σ H Q I)⟩
  pu := ⟨fun i y py spos a b c pins s σ H D I q => (h σ H _ q).elim (h1.pu.run i y py spos a b c pins s σ H D I) (h2.pu.run i y py spos a b c pins s σ H D I)⟩
theorem PB.imp {e : Expr} {t1 t : TE} (h1 : PB X e t1) (h : ∀ σ H Q, t σ H Q → t1 σ H Q) : PB X e t := h1.or h1 fun σ H Q q => .inl (h σ H Q q)
theorem PB.lock {e : Expr} {t : TE} (h : PB X e t) : PB X e (tLockE t) where
  pe := pe_lock h.pe
  pu := ⟨fun i y py spos a b c pins s σ H D I hw => by
    obtain ⟨d, u, hd, mu, hw⟩ := hw
    obtain ⟨od, I1⟩ := I.lock hd mu
    refine thn (h.pu.run i y py spos a b c pins s σ _ ⟨fun σ' H' => H' d = some (.frz od u) ∧ D.nx σ' (upd H' d u), fun v H' => H' d = some (.frz od u) ∧ D.rt v (upd H' d u), fun σ' H' => H' d = some (.frz od u) ∧ D.bk σ' (upd H' d u), fun σ' H' => H' d = some (.frz od u) ∧ D.ct σ' (upd H' d u)⟩ I1 (hw od)) fun f s1 q => ?_
    cases f with
    | next => obtain ⟨σ', H', I2, e, q⟩ := q; exact ⟨σ', _, I2.unlock e (I.nofrz hd mu), q⟩
    | brk => obtain ⟨σ', H', I2, e, q⟩ := q; exact ⟨σ', _, I2.unlock e (I.nofrz hd mu), q⟩
    | cont => obtain ⟨σ', H', I2, e, q⟩ := q; exact ⟨σ', _, I2.unlock e (I.nofrz hd mu), q⟩
    | ret v => obtain ⟨x, σ', H', I2, r, e, q⟩ := q; exact ⟨x, σ', _, I2.unlock e (I.nofrz hd mu), r, q⟩⟩
theorem pb_lc0 {wi : TI} (hc : X.calm = true) (hN : X.N.Nodup) (hi : PI X tg iter wi) (h : LcP X G elt tg ifs scope own p fc fe) (hs : notSet iter = true) :
    PB X (.ListComp elt [⟨tg, iter, ifs, 0⟩] scope pos) (tLc wi (rdG G p) (nT G fc) (nD G fe) (own.map (·.2))) where
  pe := pe_lc hc hN hi h.ok h.hg h.ht h.he (not_set hs X.env)
  pu := ⟨fun i y py spos a b c pins s σ H D I q => (ps_setLc hc hN a b c hi h.ok h.hg h.ht h.he (not_set hs X.env)).run pins s σ H D I q⟩
theorem pv_lc (hc : X.calm = true) (hN : X.N.Nodup) (hi : PI X tg iter (rdI X G is f)) (h : LcP X G elt tg ifs scope own p fc fe) (hs : notSet iter = true) :
    PB X (.ListComp elt [⟨tg, iter, ifs, 0⟩] scope pos) (rdV X G fun ρ => f ρ >>= fun r => lcR p (own.map (·.2)) is fc fe r) :=
  (pb_lc0 hc hN hi h hs).imp fun σ H Q q => lc_read h.hs q
/-- .. whose source is a dict of one's own -/
theorem lc_readD {i : Nat} {σ : L2.St} {H : Hp} {Q : VK} {ρ : Sv} {kvs : List (D × D)} (hK : X.K = G.K) (h : LcP X G elt tg ifs scope own p fc fe) (rp : Rp G H σ ρ) (ei : ρ[i]? = some (some (.own (.dct kvs))))
    (o : Out3 X G σ ρ H (lcR p (own.map (·.2)) [i] fc fe (kvs.map (·.1), ρ)) fun r => ∀ v H', Stp G σ ρ H r.2 H' → RvOk G σ ρ H r.2 H' v r.1 → Q v H') : tLockE (tLc (iKeys (tVar i)) (rdG G p) (nT G fc) (nD G fe) (own.map (·.2))) σ H Q := by
  obtain ⟨v, hv, d, rfl, ⟨xs, hd, kv⟩, h0⟩ := rp.slot i _ ei
  refine ⟨d, .dK xs, hd, trivial, fun od => ⟨_, hv, d, od, rfl, .inl ⟨xs, upd_same, fun L hL => ?_⟩⟩⟩
  have soft : Soft (H d) := by rw [hd]; trivial
  have rl := lock_dict rp od ei hv hd kv h0
  have no : ¬ OA σ (lockS ρ [i]) d := rp.lock_no (List.mem_singleton.mpr rfl) (by rw [ei]; rfl) hv
  have hLd : L ≠ d := fun z => by rw [z, upd_same] at hL; cases hL
  have hL0 : H L = none := by rw [upd_ne hLd] at hL; exact hL
  cases ev : loopC p fc fe (own.map (·.2)) (kvs.map (·.1)) (wipeS (lockS ρ [i]) (own.map (·.2))) with
  | bad => unfold lcR at o; rw [ev] at o; exact False.elim o
  | exc x ρ' => unfold lcR at o; rw [ev] at o; exact False.elim o
  | ok qq =>
    obtain ⟨ys, ρe⟩ := qq
    unfold lcR at o
    rw [ev] at o
    obtain ⟨g, o⟩ := Out3.guard o
    have hy : ys.length ≤ lineN := of_decide_eq_true g
    refine lc_turns (W := lcW σ (lockS ρ [i]) (own.map (·.2)) L) (fun a z => .inl z) (.inr rfl) (lc_no rl hL) (h0_of rl hL) (it_keys upd_same (kv.still (.upd soft)) fun z => z.elim (fun z => no z.wipe) fun z => hLd z.symm) (lc_start rl hL) upd_same .nil ev (by simpa using hy) h.hs fun H2 accV b hL2 ha => ?_
    have hn : NoS σ (lockS ρ [i]) L := fun j hj z => rl.there hj z hL
    have c1 := comp_end rl b fun a w => w.imp id fun w => by rw [w]; exact hn
    have st1 : Stp G σ (lockS ρ [i]) _ _ H2 := (c1.mono fun a w => w.imp (fun w => w.wipe) fun w => by rw [w]; exact hL).stp
    obtain ⟨e2, st2⟩ := unlock_dict rp ei hv hd kv h0 st1
    refine ⟨e2, o _ _ st2 (lc_ret rp (.refl rp) st2 hL0 (by rw [upd_ne hLd]; exact hL2) (ha.still (.upd (by rw [e2]; exact ⟨xs, rfl⟩))))⟩
/-- what is walked of a slot -/
def slotI (i : Nat) (ρ : Sv) : R (List D × Sv) := slotC ρ i >>= fun c => itemsS ρ i c >>= fun xs => .ok (xs, ρ)
theorem slotI_cases {σ : L2.St} {ρ : Sv} {H : Hp} {i : Nat} {P : List D × Sv → Prop} (o : Out3 X G σ ρ H (slotI i ρ) P) :
    (∃ kvs, ρ[i]? = some (some (.own (.dct kvs))) ∧ P (kvs.map (·.1), ρ)) ∨ Out3 X G σ ρ H (slotC ρ i >>= fun c => itemsE c >>= fun xs => .ok (xs, ρ)) P := by
  unfold slotI at o
  obtain ⟨c, e1, o⟩ := (Out3.bind o).get (slotC_ne _ _)
  rw [e1]
  cases c with
  | dat d =>
    refine .inr ?_
    cases d <;> exact o
  | set ys => exact False.elim o
  | dct kvs =>
    refine .inl ?_
    cases e : ρ[i]? with
    | none => unfold slotC getS at e1; rw [e] at e1; cases e1
    | some oo => cases oo with
      | none => unfold slotC getS at e1; rw [e] at e1; cases e1
      | some s =>
        unfold slotC getS at e1
        rw [e] at e1
        have e1 : s.cn = .dct kvs := R.ok.inj e1
        unfold itemsS at o
        rw [e] at o
        cases s with
        | im d => cases e1
        | own c =>
          cases c with
          | lst ds => cases e1
          | set ds => cases e1
          | dct k2 => cases e1; exact ⟨kvs, rfl, o⟩
        | bor c => exact False.elim o
        | chg c => exact False.elim o
theorem pv_lcS {i : Nat} (hK : X.K = G.K) (hc : X.calm = true) (hN : X.N.Nodup) (ha : PE X iter (tVar i)) (h : LcP X G elt tg ifs scope own p fc fe) (hs : notSet iter = true) :
    PB X (.ListComp elt [⟨tg, iter, ifs, 0⟩] scope pos) (rdV X G fun ρ => slotI i ρ >>= fun r => lcR p (own.map (·.2)) [i] fc fe r) := by
  refine ((pb_lc0 hc hN (pi_keys ha) h hs).lock).or (pv_lc hc hN (pi_itS hK ha) h hs) fun σ H Q ⟨ρ, rp, o⟩ => ?_
  rcases slotI_cases (Out3.bind o) with ⟨kvs, ei, q⟩ | q
  · exact .inl (lc_readD hK h rp ei q)
  · exact .inr ⟨ρ, rp, Out3.ofBind q⟩
end
end Wk

set_option Elab.async false
set_option linter.all false
set_option maxRecDepth 100000
set_option maxHeartbeats 4000000
/-! comprehensions of two clauses, of dicts -/
namespace Wk
open PySem PySem.Spec PyProof.Rows L2

section
variable {X : Cx} {G : Gh} {elt tg iter tg1 iter1 : Expr} {ifs ifs1 : List Expr} {scope : Scope} {own : List (Str × Nat)} {pos : Pos} {p p1 : Pt} {is is1 : List Nat} {f f1 : Sv → R (List D × Sv)} {fc fc1 : Sv → R (Bool × Sv)} {fe : Sv → R (D × Sv)}
def lc2R (p : Pt) (vs is : List Nat) (fc : Sv → R (Bool × Sv)) (fi : Sv → R (List D × Sv)) (r : List D × Sv) : R (Sl × Sv) := (loopCC p fc fi vs r.1 (wipeS (lockS r.2 is) vs)).nox >>= fun q =>
  guardR (decide (q.1.length ≤ lineN)) (.ok (.own (.lst q.1), unlock (backS q.2 (lockS r.2 is) vs) r.2 is))
/-- the parts of the second clause -/
structure LcP2 (X : Cx) (G : Gh) (tg1 iter1 : Expr) (ifs1 : List Expr) (scope : Scope) (own : List (Str × Nat)) (p1 : Pt) (is1 : List Nat) (f1 : Sv → R (List D × Sv)) (fc1 : Sv → R (Bool × Sv)) : Prop where
  hi : ∀ (s : Shared) (H : Hp) (C : Addr) (cl : List (Str × Addr)) (fp : List Addr), PI (X.blk s H scope (compEnvC scope cl C X.env) fp) tg1 iter1 (nI G is1 f1)
  hg : ∀ (s : Shared) (H : Hp) (C : Addr) (cl : List (Str × Addr)) (fp : List Addr), PG (X.blk s H scope (compEnvC scope cl C X.env) fp) tg1 (rdG G p1)
  ht : ∀ (s : Shared) (H : Hp) (C : Addr) (cl : List (Str × Addr)) (fp : List Addr), PTs (X.blk s H scope (compEnvC scope cl C X.env) fp) ifs1 (nT G fc1)
  hs : ∀ i ∈ p1.slots, i ∈ own.map (·.2)
  hset : notSet iter1 = true
theorem pb_lc20 {wi : TI} (hc : X.calm = true) (hN : X.N.Nodup) (hi : PI X tg iter wi) (h : LcP X G elt tg ifs scope own p fc fe) (h1 : LcP2 X G tg1 iter1 ifs1 scope own p1 is1 f1 fc1) (hs : notSet iter = true) :
    PB X (.ListComp elt [⟨tg, iter, ifs, 0⟩, ⟨tg1, iter1, ifs1, 0⟩] scope pos) (tLc2 wi (rdG G p) (nT G fc) (nI G is1 f1) (rdG G p1) (nT G fc1) (nD G fe) (own.map (·.2)) p1.slots) where
  pe := pe_lc2 hc hN hi h.ok h1.hs h.hg h.ht h1.hi h1.hg h1.ht h.he (not_set hs X.env) (not_set h1.hset)
  pu := ⟨fun i y py spos a b c pins s σ H D I q => (ps_setLc2 hc hN a b c hi h.ok h1.hs h.hg h.ht h1.hi h1.hg h1.ht h.he (not_set hs X.env) (not_set h1.hset)).run pins s σ H D I q⟩
theorem lc2_read {σ : L2.St} {H : Hp} {Q : VK} (hs : ∀ i ∈ p.slots, i ∈ own.map (·.2)) (hs1 : ∀ i ∈ p1.slots, i ∈ own.map (·.2))
    (h : ∃ ρ, Rp G H σ ρ ∧ Out3 X G σ ρ H (f ρ >>= fun r => lc2R p (own.map (·.2)) is fc (innerR p1 is1 f1 fc1 fe) r) fun r => ∀ v H', Stp G σ ρ H r.2 H' → RvOk G σ ρ H r.2 H' v r.1 → Q v H') :
    tLc2 (rdI X G is f) (rdG G p) (nT G fc) (nI G is1 f1) (rdG G p1) (nT G fc1) (nD G fe) (own.map (·.2)) p1.slots σ H Q := by
  obtain ⟨ρ, rp, o⟩ := h
  refine ⟨ρ, rp, (Out3.bind o).mono fun r _ q J H1 st hit L hD => ?_⟩
  cases ev : loopCC p fc (innerR p1 is1 f1 fc1 fe) (own.map (·.2)) r.1 (wipeS (lockS r.2 is) (own.map (·.2))) with
  | bad => unfold lc2R at q; rw [ev] at q; exact False.elim q
  | exc x ρ' => unfold lc2R at q; rw [ev] at q; exact False.elim q
  | ok qq =>
    obtain ⟨ys, ρe⟩ := qq
    unfold lc2R at q
    rw [ev] at q
    obtain ⟨g, q⟩ := Out3.guard q
    have hy : ys.length ≤ lineN := of_decide_eq_true g
    have rl := st.rp.lock is
    refine lc2_turns (W := lcW σ (lockS r.2 is) (own.map (·.2)) L) (fun a z => .inl z) (.inr rfl) (lc_no rl hD) (h0_of rl hD) (hit _ fun c z => z.imp (fun z => z.wipe) fun z => .inl (by rw [z]; exact hD)) (lc_start rl hD) upd_same .nil ev (by simpa using hy) hs hs1 fun H2 accV b hL ha => ?_
    have st2 := Blk.fin st.rp hD b fun a z => z
    exact q _ H2 (st.trans st2) (lc_ret st.rp st st2 hD hL ha)
theorem lc2_readD {i : Nat} {σ : L2.St} {H : Hp} {Q : VK} {ρ : Sv} {kvs : List (D × D)} (hs : ∀ i ∈ p.slots, i ∈ own.map (·.2)) (hs1 : ∀ i ∈ p1.slots, i ∈ own.map (·.2)) (rp : Rp G H σ ρ) (ei : ρ[i]? = some (some (.own (.dct kvs))))
    (o : Out3 X G σ ρ H (lc2R p (own.map (·.2)) [i] fc (innerR p1 is1 f1 fc1 fe) (kvs.map (·.1), ρ)) fun r => ∀ v H', Stp G σ ρ H r.2 H' → RvOk G σ ρ H r.2 H' v r.1 → Q v H') :
    tLockE (tLc2 (iKeys (tVar i)) (rdG G p) (nT G fc) (nI G is1 f1) (rdG G p1) (nT G fc1) (nD G fe) (own.map (·.2)) p1.slots) σ H Q := by
  obtain ⟨v, hv, d, rfl, ⟨xs, hd, kv⟩, h0⟩ := rp.slot i _ ei
  refine ⟨d, .dK xs, hd, trivial, fun od => ⟨_, hv, d, od, rfl, .inl ⟨xs, upd_same, fun L hL => ?_⟩⟩⟩
  have soft : Soft (H d) := by rw [hd]; trivial
  have rl := lock_dict rp od ei hv hd kv h0
  have no : ¬ OA σ (lockS ρ [i]) d := rp.lock_no (List.mem_singleton.mpr rfl) (by rw [ei]; rfl) hv
  have hLd : L ≠ d := fun z => by rw [z, upd_same] at hL; cases hL
  have hL0 : H L = none := by rw [upd_ne hLd] at hL; exact hL
  cases ev : loopCC p fc (innerR p1 is1 f1 fc1 fe) (own.map (·.2)) (kvs.map (·.1)) (wipeS (lockS ρ [i]) (own.map (·.2))) with
  | bad => unfold lc2R at o; rw [ev] at o; exact False.elim o
  | exc x ρ' => unfold lc2R at o; rw [ev] at o; exact False.elim o
  | ok qq =>
    obtain ⟨ys, ρe⟩ := qq
    unfold lc2R at o
    rw [ev] at o
    obtain ⟨g, o⟩ := Out3.guard o
    have hy : ys.length ≤ lineN := of_decide_eq_true g
    refine lc2_turns (W := lcW σ (lockS ρ [i]) (own.map (·.2)) L) (fun a z => .inl z) (.inr rfl) (lc_no rl hL) (h0_of rl hL) (it_keys upd_same (kv.still (.upd soft)) fun z => z.elim (fun z => no z.wipe) fun z => hLd z.symm) (lc_start rl hL) upd_same .nil ev (by simpa using hy) hs hs1 fun H2 accV b hL2 ha => ?_
    have hn : NoS σ (lockS ρ [i]) L := fun j hj z => rl.there hj z hL
    have c1 := comp_end rl b fun a w => w.imp id fun w => by rw [w]; exact hn
    have st1 : Stp G σ (lockS ρ [i]) _ _ H2 := (c1.mono fun a w => w.imp (fun w => w.wipe) fun w => by rw [w]; exact hL).stp
    obtain ⟨e2, st2⟩ := unlock_dict rp ei hv hd kv h0 st1
    refine ⟨e2, o _ _ st2 (lc_ret rp (.refl rp) st2 hL0 (by rw [upd_ne hLd]; exact hL2) (ha.still (.upd (by rw [e2]; exact ⟨xs, rfl⟩))))⟩
theorem pv_lc2 (hc : X.calm = true) (hN : X.N.Nodup) (hi : PI X tg iter (rdI X G is f)) (h : LcP X G elt tg ifs scope own p fc fe) (h1 : LcP2 X G tg1 iter1 ifs1 scope own p1 is1 f1 fc1) (hs : notSet iter = true) :
    PB X (.ListComp elt [⟨tg, iter, ifs, 0⟩, ⟨tg1, iter1, ifs1, 0⟩] scope pos) (rdV X G fun ρ => f ρ >>= fun r => lc2R p (own.map (·.2)) is fc (innerR p1 is1 f1 fc1 fe) r) :=
  (pb_lc20 hc hN hi h h1 hs).imp fun σ H Q q => lc2_read h.hs h1.hs q
theorem pv_lc2S {i : Nat} (hK : X.K = G.K) (hc : X.calm = true) (hN : X.N.Nodup) (ha : PE X iter (tVar i)) (h : LcP X G elt tg ifs scope own p fc fe) (h1 : LcP2 X G tg1 iter1 ifs1 scope own p1 is1 f1 fc1) (hs : notSet iter = true) :
    PB X (.ListComp elt [⟨tg, iter, ifs, 0⟩, ⟨tg1, iter1, ifs1, 0⟩] scope pos) (rdV X G fun ρ => slotI i ρ >>= fun r => lc2R p (own.map (·.2)) [i] fc (innerR p1 is1 f1 fc1 fe) r) := by
  refine ((pb_lc20 hc hN (pi_keys ha) h h1 hs).lock).or (pv_lc2 hc hN (pi_itS hK ha) h h1 hs) fun σ H Q ⟨ρ, rp, o⟩ => ?_
  rcases slotI_cases (Out3.bind o) with ⟨kvs, ei, q⟩ | q
  · exact .inl (lc2_readD h.hs h1.hs rp ei q)
  · exact .inr ⟨ρ, rp, Out3.ofBind q⟩
end

/-! ### dicts -/
section
variable {G : Gh} {H H1 H2 : Hp} {σ : L2.St} {ρ ρl ρe : Sv} {vs : List Nat} {p : Pt} {fc : Sv → R (Bool × Sv)} {fk fv : Sv → R (D × Sv)}
def kvR (fk fv : Sv → R (D × Sv)) (ρ : Sv) : R ((D × D) × Sv) := fk ρ >>= fun rk => fv rk.2 >>= fun rv => .ok ((rk.1, rv.1), rv.2)
theorem putD_length (k v : D) (kvs : List (D × D)) : (putD k v kvs).length ≤ kvs.length + 1 := by
  unfold putD
  split <;> simp
theorem dc_turns {W : Addr → Prop} {J : It} {xs : List D} {ys : List (D × D)} {ρ0 : Sv} {Hs : Hp} {L : Addr} {Qd : Hp → Prop} (hW : ∀ a, OA (wipe σ vs) ρ0 a → W a) (hWL : W L) (hn : NoS (wipe σ vs) ρ0 L) (h0 : G.H0 L = none)
    (it : ItOk G.K J W H1 xs) (b0 : Blk G W (wipe σ vs) ρ0 H1 ρ0 Hs) (hs0 : Hs L = some (.dK []))
    (ev : loopD p fc (kvR fk fv) vs xs [] ρ0 = .ok (ys, ρe)) (hy : xs.length ≤ lineN) (hs : ∀ i ∈ p.slots, i ∈ vs)
    (fin : ∀ H2 accV, Blk G W (wipe σ vs) ρ0 H1 ρe H2 → H2 L = some (.dK accV) → KvAll G.K H2 accV ys → Qd H2) :
    ∃ W : Nat → Nat → Hp → Prop, (∃ m, W 0 m Hs) ∧ ∀ i m H, W i m H →
      (J.stop i H ∧ Qd H) ∨ (J.go i H ∧ ∃ Nx : Hp → Prop, (∀ H', Nx H' → ∃ m', m' < m ∧ W (i + 1) m' H') ∧ ∀ x H', J.yld i H x H' → rdG G p x (wipe σ vs) H' fun σ2 H2 => wipe σ2 vs = wipe σ vs ∧ nT G fc σ2 H2 fun b H3 =>
        if b = true then nD G fk σ2 H3 fun y H4 => nD G fv σ2 H4 fun z H5 => ∃ kvs k, y = kV k ∧ H5 L = some (.dK kvs) ∧ kvs.length < sizeLine ∧ Nx (upd H5 L (.dK (putK kvs k z))) else Nx H3) := by
  let P : Nat → Hp → Prop := fun i H => ∃ ρi acc accV, Blk G W (wipe σ vs) ρ0 H1 ρi H ∧ H L = some (.dK accV) ∧ KvAll G.K H accV acc ∧ acc.length ≤ i ∧ loopD p fc (kvR fk fv) vs (xs.drop i) acc ρi = .ok (ys, ρe)
  refine ⟨fun i m H => m = xs.length - i ∧ i ≤ xs.length ∧ P i H, ⟨xs.length, by simp, Nat.zero_le _, ρ0, [], [], b0, hs0, .nil, Nat.le_refl _, by rw [List.drop_zero]; exact ev⟩, ?_⟩
  rintro i m H ⟨rfl, hi, ρi, acc, accV, b, hL, ha, hr, el⟩
  by_cases hlt : i < xs.length
  · refine .inr ?_
    obtain ⟨x, ex, ed⟩ := drop_cons hlt
    rw [ed] at el
    obtain ⟨ρ1, e1, el⟩ := R.bind_ok el
    obtain ⟨⟨c, ρ2⟩, e2, el⟩ := R.bind_ok el
    obtain ⟨hgo, hyl⟩ := it.go i x H ex b.ext
    refine ⟨hgo, P (i + 1), fun H' p' => ⟨xs.length - (i + 1), by omega, rfl, hlt, p'⟩, fun v H' y => ?_⟩
    obtain ⟨sm, dv⟩ := hyl v H' y
    refine ⟨x, ρi, ρ1, b.rp.same sm, dv, e1, fun σ2 r2 of => ?_⟩
    refine ⟨(b.turn hW sm e1 of hs (Stp.refl r2).blk fun a z => .inl z).1, ρ1, (c, ρ2), r2, e2, fun H3 st => ?_⟩
    have hL' : H' L = some (.dK accV) := sm L _ hL
    have hn1 : NoS σ2 ρ1 L := (b.no hn).bind e1 of
    cases c with
    | false =>
      show P (i + 1) H3
      obtain ⟨hw, b2⟩ := b.turn hW sm e1 of hs st.blk fun a z => .inl z
      have e3 : loopD p fc (kvR fk fv) vs (xs.drop (i + 1)) acc (wipeS ρ2 vs) = .ok (ys, ρe) := el
      exact ⟨_, acc, accV, b2, keepL hn1 st hL' (fun ps z => by cases z), ha.still (Still.trans (.of_same sm) st.ext.still), Nat.le_succ_of_le hr, e3⟩
    | true =>
      show nD G fk σ2 H3 _
      have el : (kvR fk fv ρ2 >>= fun r3 => guardR (isKey r3.1.1) (loopD p fc (kvR fk fv) vs (xs.drop (i + 1)) (putD r3.1.1 r3.1.2 acc) (wipeS r3.2 vs))) = .ok (ys, ρe) := el
      obtain ⟨⟨⟨kd, vd⟩, ρ4⟩, e3, el⟩ := R.bind_ok el
      obtain ⟨gk, el⟩ := guardR_ok el
      obtain ⟨⟨kd', ρ3⟩, e5, e3⟩ := R.bind_ok e3
      obtain ⟨⟨vd', ρ4'⟩, e6, e3⟩ := R.bind_ok e3
      cases e3
      refine ⟨ρ2, (kd', ρ3), st.rp, e5, fun y H4 st2 dk => ⟨ρ3, (vd', ρ4'), st2.rp, e6, fun z H5 st5 dz => ?_⟩⟩
      have st3 := (st.trans st2).trans st5
      obtain ⟨hw, b2⟩ := b.turn hW sm e1 of hs st3.blk fun a z => .inl z
      have hL5 := keepL hn1 st3 hL' (fun ps z => by cases z)
      obtain ⟨k, rfl⟩ := dk.key gk
      have hlen : accV.length < sizeLine := by
        have h1 := ha.length
        have := lineN_le
        omega
      have soft : Soft (H5 L) := by rw [hL5]; trivial
      refine ⟨accV, k, rfl, hL5, hlen, wipeS ρ4' vs, putD kd' vd' acc, putK accV k z, b2.put hn h0 hWL soft, upd_same, ?_, ?_, el⟩
      · exact (key_put (dk.still st5.ext.still) dz (ha.still (Still.trans (.of_same sm) st3.ext.still))).still (.upd soft)
      · have := putD_length kd' vd' acc
        omega
  · have e : i = xs.length := by omega
    subst e
    rw [List.drop_length] at el
    cases el
    exact .inl ⟨it.stop _ H (Nat.le_refl _) b.ext, fin H accV b hL ha⟩
end
section
variable {X : Cx} {G : Gh} {kx vx tg iter : Expr} {ifs : List Expr} {scope : Scope} {own : List (Str × Nat)} {pos : Pos} {p : Pt} {is : List Nat} {f : Sv → R (List D × Sv)} {fc : Sv → R (Bool × Sv)} {fk fv : Sv → R (D × Sv)}
/-- name = {..} on one line -/
theorem ps_setDc {i : Nat} {y : Str} {py : Pos} {spos : Pos} {wi : TI} {g : TG} {tt : TT} {tk tv : TE} (hc : X.calm = true) (hN : X.N.Nodup) (hy : X.N[i]? = some y) (hyl : X.env.scope.names.lookup y = some .local)
    (hsw : swapsWith (.DictComp kx vx [⟨tg, iter, ifs, 0⟩] scope pos) (some (.Name y py)) spos.line X.env = pure true) (hi : PI X tg iter wi) (ok : BlkOk X.N X.env.scope scope own)
    (hg : ∀ (s : Shared) (H : Hp) (C : Addr) (cl : List (Str × Addr)) (fp : List Addr), PG (X.blk s H scope (compEnvC scope cl C X.env) fp) tg g) (ht : ∀ (s : Shared) (H : Hp) (C : Addr) (cl : List (Str × Addr)) (fp : List Addr), PTs (X.blk s H scope (compEnvC scope cl C X.env) fp) ifs tt)
    (hk : ∀ (s : Shared) (H : Hp) (C : Addr) (cl : List (Str × Addr)) (fp : List Addr), PE (X.blk s H scope (compEnvC scope cl C X.env) fp) kx tk)
    (he : ∀ (s : Shared) (H : Hp) (C : Addr) (cl : List (Str × Addr)) (fp : List Addr), PE (X.blk s H scope (compEnvC scope cl C X.env) fp) vx tv) (hs : ∀ x, foldedSetIterable iter X.env x = pure x) :
    PS X (.Assign [.Name y py] (.DictComp kx vx [⟨tg, iter, ifs, 0⟩] scope pos) spos) (tAsg (tDc wi g tt tk tv (own.map (·.2))) (gName i)) := by
  refine ⟨fun pins s σ H D I h => ?_⟩
  rw [exec_Assign_Name_used _ _ _ _ hsw]
  refine wpAny_bind (wpAny_standAt (wpAny_bind ?_))
  show wpAny _ X.A (do let _ ← comprehension (.DictComp kx vx [⟨tg, iter, ifs, 0⟩] scope pos) scope X.env (firstIterPos [⟨tg, iter, ifs, 0⟩] pos) newDict false (eval iter X.env) (some (assign (.Name y py) X.env))) _ _ s
  have h : tDc wi g tt tk tv (own.map (·.2)) σ H (fun x H1 => gName i x σ H1 D.nx) := h
  refine wpAny_bind (thn (dc_core (Qf := fun _ s' => SP X pins D .next s') hc hN I hi ok hg ht hk he hs h fun L C s' m H' I' q hn f => ?_) fun _ s' hq => wpAny_pure (wpAny_pure hq))
  show wpAny _ _ (assign (.Name y py) X.env (.ref L)) _ _ _
  refine wpAny_assign_Name (store_ok2 (v := V.ref L) I' hN hy (.inl hyl) rfl (fun s2 I2 ⟨a, sb, ha⟩ => ?_) (.inr hyl))
  obtain ⟨f0, f1, f2, f3, f4, f5⟩ := f
  have haC : C ≠ a := by
    rcases ha with z | z
    · rw [z]; exact f1
    · exact fun e => f4 y a z e.symm
  refine ⟨m, hn.sameBut sb haC, fun h3 sb3 => ?_⟩
  exact ⟨_, H', I2.turned (t' := s2.toks) (fun b o hb e => (sb3.2 b hb).trans e) f0 f1 f3 f4 f5, q⟩
def dcR (p : Pt) (vs is : List Nat) (fc : Sv → R (Bool × Sv)) (fkv : Sv → R ((D × D) × Sv)) (r : List D × Sv) : R (Sl × Sv) := (loopD p fc fkv vs r.1 [] (wipeS (lockS r.2 is) vs)).nox >>= fun q =>
  guardR (decide (r.1.length ≤ lineN)) (.ok (.own (.dct q.1), unlock (backS q.2 (lockS r.2 is) vs) r.2 is))
structure DcP (X : Cx) (G : Gh) (kx vx tg : Expr) (ifs : List Expr) (scope : Scope) (own : List (Str × Nat)) (p : Pt) (fc : Sv → R (Bool × Sv)) (fk fv : Sv → R (D × Sv)) : Prop where
  ok : BlkOk X.N X.env.scope scope own
  hg : ∀ (s : Shared) (H : Hp) (C : Addr) (cl : List (Str × Addr)) (fp : List Addr), PG (X.blk s H scope (compEnvC scope cl C X.env) fp) tg (rdG G p)
  ht : ∀ (s : Shared) (H : Hp) (C : Addr) (cl : List (Str × Addr)) (fp : List Addr), PTs (X.blk s H scope (compEnvC scope cl C X.env) fp) ifs (nT G fc)
  hk : ∀ (s : Shared) (H : Hp) (C : Addr) (cl : List (Str × Addr)) (fp : List Addr), PE (X.blk s H scope (compEnvC scope cl C X.env) fp) kx (nD G fk)
  he : ∀ (s : Shared) (H : Hp) (C : Addr) (cl : List (Str × Addr)) (fp : List Addr), PE (X.blk s H scope (compEnvC scope cl C X.env) fp) vx (nD G fv)
  hs : ∀ i ∈ p.slots, i ∈ own.map (·.2)
theorem pb_dc0 {wi : TI} (hc : X.calm = true) (hN : X.N.Nodup) (hi : PI X tg iter wi) (h : DcP X G kx vx tg ifs scope own p fc fk fv) (hs : notSet iter = true) :
    PB X (.DictComp kx vx [⟨tg, iter, ifs, 0⟩] scope pos) (tDc wi (rdG G p) (nT G fc) (nD G fk) (nD G fv) (own.map (·.2))) where
  pe := pe_dc hc hN hi h.ok h.hg h.ht h.hk h.he (not_set hs X.env)
  pu := ⟨fun i y py spos a b c pins s σ H D I q => (ps_setDc hc hN a b c hi h.ok h.hg h.ht h.hk h.he (not_set hs X.env)).run pins s σ H D I q⟩
theorem dc_ret {σ : L2.St} {ρ ρ1 ρ2 : Sv} {H H1 H2 : Hp} {L : Addr} {accV : List (Key × V)} {ys : List (D × D)} (rp : Rp G H1 σ ρ1) (st : Stp G σ ρ H ρ1 H1) (st2 : Stp G σ ρ1 H1 ρ2 H2) (hD : H1 L = none) (hL : H2 L = some (.dK accV)) (ha : KvAll G.K H2 accV ys) : RvOk G σ ρ H ρ2 H2 (.ref L) (.own (.dct ys)) := by
  refine ⟨L, rfl, ⟨accV, hL, ha⟩, h0_of rp hD, .inl ?_, fun i hi z => rp.there (ct_of st2.sub st2.bc hi) z hD⟩
  cases e : H L with
  | none => rfl
  | some u => exact absurd hD (st.ext.dom L (by rw [e]; exact fun z => by cases z))
theorem dc_read {σ : L2.St} {H : Hp} {Q : VK} (hs : ∀ i ∈ p.slots, i ∈ own.map (·.2))
    (h : ∃ ρ, Rp G H σ ρ ∧ Out3 X G σ ρ H (f ρ >>= fun r => dcR p (own.map (·.2)) is fc (kvR fk fv) r) fun r => ∀ v H', Stp G σ ρ H r.2 H' → RvOk G σ ρ H r.2 H' v r.1 → Q v H') : tDc (rdI X G is f) (rdG G p) (nT G fc) (nD G fk) (nD G fv) (own.map (·.2)) σ H Q := by
  obtain ⟨ρ, rp, o⟩ := h
  refine ⟨ρ, rp, (Out3.bind o).mono fun r _ q J H1 st hit L hD => ?_⟩
  cases ev : loopD p fc (kvR fk fv) (own.map (·.2)) r.1 [] (wipeS (lockS r.2 is) (own.map (·.2))) with
  | bad => unfold dcR at q; rw [ev] at q; exact False.elim q
  | exc x ρ' => unfold dcR at q; rw [ev] at q; exact False.elim q
  | ok qq =>
    obtain ⟨ys, ρe⟩ := qq
    unfold dcR at q
    rw [ev] at q
    obtain ⟨g, q⟩ := Out3.guard q
    have hy : r.1.length ≤ lineN := of_decide_eq_true g
    have rl := st.rp.lock is
    refine dc_turns (W := lcW σ (lockS r.2 is) (own.map (·.2)) L) (fun a z => .inl z) (.inr rfl) (lc_no rl hD) (h0_of rl hD) (hit _ fun c z => z.imp (fun z => z.wipe) fun z => .inl (by rw [z]; exact hD)) (lc_start rl hD) upd_same ev hy hs fun H2 accV b hL ha => ?_
    have st2 := Blk.fin st.rp hD b fun a z => z
    exact q _ H2 (st.trans st2) (dc_ret st.rp st st2 hD hL ha)
theorem pv_dc (hc : X.calm = true) (hN : X.N.Nodup) (hi : PI X tg iter (rdI X G is f)) (h : DcP X G kx vx tg ifs scope own p fc fk fv) (hs : notSet iter = true) :
    PB X (.DictComp kx vx [⟨tg, iter, ifs, 0⟩] scope pos) (rdV X G fun ρ => f ρ >>= fun r => dcR p (own.map (·.2)) is fc (kvR fk fv) r) :=
  (pb_dc0 hc hN hi h hs).imp fun σ H Q q => dc_read h.hs q
/-- .. a list's or a tuple's slot -/
theorem pv_dcS {i : Nat} (hK : X.K = G.K) (hc : X.calm = true) (hN : X.N.Nodup) (ha : PE X iter (tVar i)) (h : DcP X G kx vx tg ifs scope own p fc fk fv) (hs : notSet iter = true) :
    PB X (.DictComp kx vx [⟨tg, iter, ifs, 0⟩] scope pos) (rdV X G fun ρ => (slotC ρ i >>= fun c => itemsE c >>= fun xs => .ok (xs, ρ)) >>= fun r => dcR p (own.map (·.2)) [i] fc (kvR fk fv) r) :=
  pv_dc hc hN (pi_itS hK ha) h hs
end
end Wk

set_option Elab.async false
set_option linter.all false
set_option maxRecDepth 100000
set_option maxHeartbeats 4000000
/-! statements -/
namespace Wk
open PySem PySem.Spec PyProof.Rows L2

/-- from a state to a later one -/
structure StpS (G : Gh) (σ : L2.St) (ρ : Sv) (H : Hp) (σ' : L2.St) (ρ' : Sv) (H' : Hp) : Prop where
  rp : Rp G H' σ' ρ'
  ext : Ext (OA σ ρ) H H'
  oa : ∀ a, OA σ' ρ' a → OA σ ρ a ∨ H a = none
  fixb : ∀ (i : Nat) (c : Ct), ρ'[i]? = some (some (.bor c)) → ρ[i]? = some (some (.bor c)) ∧ σ'[i]? = σ[i]?
  fixc : ∀ (i : Nat) (c : Ct), ρ'[i]? = some (some (.chg c)) → (∃ c0, ρ[i]? = some (some (.chg c0))) ∧ σ'[i]? = σ[i]?
section
variable {G : Gh} {H H' H1 H2 : Hp} {σ σ' σ1 σ2 : L2.St} {ρ ρ' ρ1 ρ2 : Sv} {is : List Nat}
theorem Stp.s (st : Stp G σ ρ H ρ1 H1) : StpS G σ ρ H σ ρ1 H1 := ⟨st.rp, st.ext, fun a z => .inl (z.sub st.sub), fun i c e => ⟨st.bc.bor i c e, rfl⟩, fun i c e => ⟨st.bc.chg i c e, rfl⟩⟩
theorem StpS.refl (rp : Rp G H σ ρ) : StpS G σ ρ H σ ρ H := (Stp.refl rp).s
theorem StpS.trans (a : StpS G σ ρ H σ1 ρ1 H1) (b : StpS G σ1 ρ1 H1 σ2 ρ2 H2) : StpS G σ ρ H σ2 ρ2 H2 where
  rp := b.rp
  ext := a.ext.trans b.ext a.oa
  oa := fun c z => by
    rcases b.oa c z with z | z
    · exact a.oa c z
    · refine .inr ?_
      cases e : H c with
      | none => rfl
      | some o => exact absurd z (a.ext.dom c (by rw [e]; exact fun z => by cases z))
  fixb := fun i c e => by
    obtain ⟨h1, h2⟩ := b.fixb i c e
    obtain ⟨h3, h4⟩ := a.fixb i c h1
    exact ⟨h3, h2.trans h4⟩
  fixc := fun i c e => by
    obtain ⟨⟨c0, h1⟩, h2⟩ := b.fixc i c e
    obtain ⟨h3, h4⟩ := a.fixc i c0 h1
    exact ⟨h3, h2.trans h4⟩
/-- a slot gets a value -/
theorem StpS.set {i : Nat} {s : Sl} {v : V} (st : Stp G σ ρ H ρ1 H1) (rv : RvOk G σ ρ H ρ1 H1 v s) : StpS G σ ρ H (σ.set i (some v)) (ρ1.set i (some s)) H1 := by
  have okb : isBC (some s) = false := by
    cases s with
    | im d => rfl
    | own c => rfl
    | bor c => exact False.elim rv
    | chg c => exact False.elim rv
  have ok : SlOk G H1 v s := by
    cases s with
    | im d => exact rv
    | own c => obtain ⟨a, e, h1, h2, _⟩ := rv; exact ⟨a, e, h1, h2⟩
    | bor c => exact False.elim rv
    | chg c => exact False.elim rv
  have no : ∀ {a : Addr} {j : Nat}, isCt (some (some s)) = true → v = .ref a → isCt ρ1[j]? = true → σ[j]? ≠ some (some (V.ref a)) := fun {a j} hc e hj => by
    cases s with
    | im d => cases hc
    | own c => obtain ⟨b, e2, _, _, _, h5⟩ := rv; cases e2.symm.trans e; exact h5 j hj
    | bor c => exact False.elim rv
    | chg c => exact False.elim rv
  refine ⟨st.rp.assign ok (fun hc a j e _ hj => no (isCt_of_OM hc) e hj) (fun hc a j e _ hj => no hc e (isCt_of_OM hj)), st.ext, fun a ⟨j, h1, h2⟩ => ?_, fun j c e => ?_, fun j c e => ?_⟩
  · rcases om_set h1 with ⟨e1, q⟩ | ⟨e1, q⟩
    · have hlt : i < ρ1.length := by
        by_cases z : i < ρ1.length
        · exact z
        · rw [e1, set_get, if_neg (fun y => z y.2), List.getElem?_eq_none (by omega)] at h1; cases h1
      rw [e1, set_get, if_pos ⟨rfl, by rw [st.rp.len]; exact hlt⟩] at h2
      cases h2
      cases s with
      | im d => cases q
      | own c => obtain ⟨b, e2, _, _, h4, _⟩ := rv; cases e2; exact h4.symm
      | bor c => exact False.elim rv
      | chg c => exact False.elim rv
    · rw [set_get, if_neg (fun z => e1 z.1)] at h2
      exact .inl ⟨j, st.sub j q, h2⟩
  · rcases get_set e with ⟨_, e2, _⟩ | ⟨e1, e2⟩
    · rw [← e2] at okb; cases okb
    · exact ⟨st.bc.bor j c e2, by rw [set_get, if_neg (fun z => e1 z.1)]⟩
  · rcases get_set e with ⟨_, e2, _⟩ | ⟨e1, e2⟩
    · rw [← e2] at okb; cases okb
    · exact ⟨st.bc.chg j c e2, by rw [set_get, if_neg (fun z => e1 z.1)]⟩
/-- data are bound -/
theorem StpS.off {p : Pt} {d : D} (st : Stp G σ ρ H ρ1 H1) (e : bindP p (.im d) ρ1 = .ok ρ2) (r2 : Rp G H1 σ2 ρ2) (of : Off p.slots σ σ2) : StpS G σ ρ H σ2 ρ2 H1 := by
  obtain ⟨h1, h2, h3⟩ := bindP_im e
  refine ⟨r2, st.ext, fun a ⟨j, q1, q2⟩ => ?_, fun j c q => ?_, fun j c q => ?_⟩
  · obtain ⟨q3, q4⟩ := om_bind e q1
    exact .inl ⟨j, st.sub j q3, by rw [← of.2 j q4]; exact q2⟩
  · have hj : j ∉ p.slots := fun z => by have := h3 j z; rw [q] at this; cases this
    rw [h2 j hj] at q
    exact ⟨st.bc.bor j c q, of.2 j hj⟩
  · have hj : j ∉ p.slots := fun z => by have := h3 j z; rw [q] at this; cases this
    rw [h2 j hj] at q
    exact ⟨st.bc.chg j c q, of.2 j hj⟩
/-- the walked slots are one's own again -/
theorem StpS.unlock (rp : Rp G H1 σ ρ) (st : StpS G σ (lockS ρ is) H1 σ2 ρ2 H2) : StpS G σ ρ H1 σ2 (unlock ρ2 ρ is) H2 := by
  have key : ∀ i : Nat, ((Wk.unlock ρ2 ρ is)[i]? = ρ[i]? ∧ i ∈ is ∧ isCt ρ[i]? = true ∧ σ2[i]? = σ[i]? ∧ isCt ρ2[i]? = true) ∨ ((Wk.unlock ρ2 ρ is)[i]? = ρ2[i]? ∧ (i ∈ is → ∀ c, ρ2[i]? ≠ some (some (.bor c)))) := fun i => by
    rw [unlock_get]
    by_cases h : i ∈ is
    · rw [if_pos h]
      by_cases hb : ∃ c, ρ2[i]? = some (some (.bor c))
      · obtain ⟨c, e⟩ := hb
        obtain ⟨q, e2⟩ := st.fixb i c e
        rw [lockS_get, if_pos h] at q
        refine .inl ?_
        rw [e]
        unfold lockO at q
        split at q
        · rename_i c1 e1; cases q; rw [e1]; exact ⟨rfl, h, rfl, e2, rfl⟩
        · rename_i c1 e1; cases q; rw [e1]; exact ⟨rfl, h, rfl, e2, rfl⟩
        · rw [q]; exact ⟨rfl, h, rfl, e2, rfl⟩
      · refine .inr ⟨?_, fun _ c e => hb ⟨c, e⟩⟩
        unfold unlO
        split
        · rename_i e _; exact absurd ⟨_, e⟩ hb
        · rename_i e _; exact absurd ⟨_, e⟩ hb
        · rfl
    · rw [if_neg h]
      exact .inr ⟨rfl, fun z => absurd z h⟩
  refine ⟨⟨by rw [unlock_length]; exact st.rp.len, fun i s e => ?_, fun i j a hij h1 h2 h3 h4 => ?_, st.rp.ext, st.rp.tabs⟩, st.ext.mono fun a z => .inl z.lock, fun a ⟨i, h1, h2⟩ => ?_, fun i c h => ?_, fun i c h => ?_⟩
  · rcases key i with ⟨k, hi, hc, hσ, _⟩ | ⟨k, hv⟩
    · rw [k] at e
      obtain ⟨v, h1, h2⟩ := rp.slot i s e
      refine ⟨v, by rw [hσ]; exact h1, h2.keep st.ext.still fun _ a o ev ea ht => st.ext.keep a o ea (fun w => ?_) ht⟩
      subst ev
      exact rp.lock_no hi hc h1 w
    · rw [k] at e
      exact st.rp.slot i s e
  · rcases key i with ⟨ki, hi, hci, hσi, hci2⟩ | ⟨ki, hvi⟩
    · rw [ki] at h1
      rw [hσi] at h3
      rcases key j with ⟨kj, hj, hcj, hσj, _⟩ | ⟨kj, hvj⟩
      · rw [hσj] at h4
        exact rp.sep i j a hij h1 hcj h3 h4
      · rw [kj] at h2
        have oaj : isOM ρ2[j]? = true → False := fun q => by
          rcases st.oa a ⟨j, q, h4⟩ with w | w
          · exact rp.lock_no hi hci h3 w
          · exact rp.there hci h3 w
        cases ej : ρ2[j]? with
        | none => rw [ej] at h2; cases h2
        | some o => cases o with
          | none => rw [ej] at h2; cases h2
          | some s => cases s with
            | im d => rw [ej] at h2; cases h2
            | own c => exact oaj (by rw [ej]; rfl)
            | chg c => exact oaj (by rw [ej]; rfl)
            | bor c =>
              obtain ⟨q1, q2⟩ := st.fixb j c ej
              rw [q2] at h4
              have cj : isCt ρ[j]? = true := by
                have : isCt (lockS ρ is)[j]? = true := by rw [q1]; rfl
                rwa [isCt_lock] at this
              exact rp.sep i j a hij h1 cj h3 h4
    · rw [ki] at h1
      rcases key j with ⟨kj, hj, hcj, hσj, hcj2⟩ | ⟨kj, hvj⟩
      · exact st.rp.sep i j a hij h1 hcj2 h3 h4
      · rw [kj] at h2
        exact st.rp.sep i j a hij h1 h2 h3 h4
  · rcases key i with ⟨k, hi, hc, hσ, _⟩ | ⟨k, hv⟩
    · rw [k] at h1; rw [hσ] at h2; exact .inl ⟨i, h1, h2⟩
    · rw [k] at h1
      exact (st.oa a ⟨i, h1, h2⟩).imp (fun z => z.lock) id
  · rcases key i with ⟨k, hi, hc, hσ, _⟩ | ⟨k, hv⟩
    · rw [k] at h; exact ⟨h, hσ⟩
    · rw [k] at h
      obtain ⟨q1, q2⟩ := st.fixb i c h
      rw [lockS_get, if_neg (fun z => hv z c h)] at q1
      exact ⟨q1, q2⟩
  · rcases key i with ⟨k, hi, hc, hσ, _⟩ | ⟨k, hv⟩
    · rw [k] at h; exact ⟨⟨c, h⟩, hσ⟩
    · rw [k] at h
      obtain ⟨⟨c0, q1⟩, q2⟩ := st.fixc i c h
      rw [lockS_get] at q1
      split at q1
      · have := lockO_om (o := ρ[i]?)
        rw [q1] at this
        cases this
      · exact ⟨⟨c0, q1⟩, q2⟩
end

/-! ### what a statement does -/
def OutS (X : Cx) (G : Gh) (σ : L2.St) (ρ : Sv) (H : Hp) (D : Ends) : Out → Prop
  | .nx ρ' => ∀ σ' H', StpS G σ ρ H σ' ρ' H' → D.nx σ' H'
  | .ret s ρ' => ∀ v σ' H', StpS G σ ρ H σ' ρ' H' → RetOk G H' v s → D.rt v H'
  | .brk ρ' => ∀ σ' H', StpS G σ ρ H σ' ρ' H' → D.bk σ' H'
  | .cnt ρ' => ∀ σ' H', StpS G σ ρ H σ' ρ' H' → D.ct σ' H'
  | .exc x ρ' => Takes X fun cls d σ' H' => ExIs G x cls d H' ∧ StpS G σ ρ H σ' ρ' H'
  | .bad => False
def rdY (X : Cx) (G : Gh) (f : Sv → Out) : TS := fun D σ H => ∃ ρ, Rp G H σ ρ ∧ OutS X G σ ρ H D (f ρ)
section
variable {X : Cx} {G : Gh} {H H1 H2 : Hp} {σ σ1 σ2 : L2.St} {ρ ρ1 ρ2 : Sv} {D D' : Ends} {o : Out} {β : Type} {m : R β} {k : β → Out} {e tg : Expr} {pos : Pos}
theorem OutS.bind (h : OutS X G σ ρ H D (m.out k)) : Out3 X G σ ρ H m fun b => OutS X G σ ρ H D (k b) := by
  cases m with
  | ok b => exact h
  | exc x ρ' => exact Takes.imp h fun c d σ' H' ⟨e1, e2, e3⟩ => by subst e1; exact ⟨e2, e3.s⟩
  | bad => exact h
theorem OutS.later (s : StpS G σ ρ H σ1 ρ1 H1) (h : OutS X G σ ρ H D o) : OutS X G σ1 ρ1 H1 D o := by
  cases o with
  | nx ρ' => exact fun σ' H' st => h σ' H' (s.trans st)
  | ret v ρ' => exact fun v σ' H' st => h v σ' H' (s.trans st)
  | brk ρ' => exact fun σ' H' st => h σ' H' (s.trans st)
  | cnt ρ' => exact fun σ' H' st => h σ' H' (s.trans st)
  | exc x ρ' => exact Takes.imp h fun c d σ' H' ⟨e2, e3⟩ => ⟨e2, s.trans e3⟩
  | bad => exact h
theorem OutS.imp (h : OutS X G σ ρ H D o) (h1 : ∀ σ H, D.nx σ H → D'.nx σ H) (h2 : ∀ v H, D.rt v H → D'.rt v H) (h3 : ∀ σ H, D.bk σ H → D'.bk σ H) (h4 : ∀ σ H, D.ct σ H → D'.ct σ H) : OutS X G σ ρ H D' o := by
  cases o with
  | nx ρ' => exact fun σ' H' st => h1 _ _ (h σ' H' st)
  | ret v ρ' => exact fun v σ' H' st r => h2 _ _ (h v σ' H' st r)
  | brk ρ' => exact fun σ' H' st => h3 _ _ (h σ' H' st)
  | cnt ρ' => exact fun σ' H' st => h4 _ _ (h σ' H' st)
  | exc x ρ' => exact h
  | bad => exact h

mutual
theorem bindP_ne : ∀ (p : Pt) (s : Sl) (ρ : Sv) (x : Ex) (ρ' : Sv), bindP p s ρ ≠ .exc x ρ'
  | .v i, .im d, ρ, x, ρ' => by simp [bindP]
  | .v i, .own c, ρ, x, ρ' => by simp [bindP]
  | .v i, .bor c, ρ, x, ρ' => by simp [bindP]
  | .v i, .chg c, ρ, x, ρ' => by simp [bindP]
  | .t ps, .im d, ρ, x, ρ' => by
    cases d with
    | tuple ds =>
      have := bindPs_ne ps ds ρ x ρ'
      simpa [bindP] using this
    | _ => simp [bindP]
  | .t ps, .own c, ρ, x, ρ' => by simp [bindP]
  | .t ps, .bor c, ρ, x, ρ' => by simp [bindP]
  | .t ps, .chg c, ρ, x, ρ' => by simp [bindP]
theorem bindPs_ne : ∀ (ps : List Pt) (ds : List Wk.D) (ρ : Sv) (x : Ex) (ρ' : Sv), bindPs ps ds ρ ≠ .exc x ρ'
  | [], [], ρ, x, ρ' => by simp [bindPs]
  | [], _ :: _, ρ, x, ρ' => by simp [bindPs]
  | _ :: _, [], ρ, x, ρ' => by simp [bindPs]
  | p :: ps, d :: ds, ρ, x, ρ' => by
    intro z
    have z : (bindP p (.im d) ρ >>= fun ρ1 => bindPs ps ds ρ1) = .exc x ρ' := by simpa [bindPs] using z
    cases e : bindP p (.im d) ρ with
    | ok ρ1 => rw [e] at z; exact bindPs_ne ps ds ρ1 x ρ' z
    | bad => rw [e] at z; cases z
    | exc y ρ1 => exact bindP_ne _ _ _ _ _ e
end
/-! ### simple statements -/
theorem psn_nil : PSs X [] (rdY X G .nx) := ⟨fun pins s σ H D I ⟨ρ, rp, o⟩ => pss_nil.run pins s σ H D I (o σ H (.refl rp))⟩
theorem psn_cons {st : Stmt} {rest : List Stmt} {f g : Sv → Out} (h1 : PS X st (rdY X G f)) (h2 : PSs X rest (rdY X G g)) : PSs X (st :: rest) (rdY X G fun ρ => (f ρ).bind g) := by
  refine ⟨fun pins s σ H D I ⟨ρ, rp, o⟩ => (pss_cons h1 h2).run pins s σ H D I ⟨ρ, rp, ?_⟩⟩
  replace o : OutS X G σ ρ H D ((f ρ).bind g) := o
  cases e : f ρ with
  | nx ρ' => rw [e] at o; exact fun σ' H' st => ⟨ρ', st.rp, o.later st⟩
  | ret v ρ' => rw [e] at o; exact o
  | brk ρ' => rw [e] at o; exact o
  | cnt ρ' => rw [e] at o; exact o
  | exc x ρ' => rw [e] at o; exact o
  | bad => rw [e] at o; exact o
theorem psn_pass : PS X (.Pass pos) (rdY X G .nx) := ⟨fun pins s σ H D I ⟨ρ, rp, o⟩ => ps_pass.run pins s σ H D I (o σ H (.refl rp))⟩
theorem psn_break : PS X (.Break pos) (rdY X G .brk) := ⟨fun pins s σ H D I ⟨ρ, rp, o⟩ => ps_break.run pins s σ H D I (o σ H (.refl rp))⟩
theorem psn_continue : PS X (.Continue pos) (rdY X G .cnt) := ⟨fun pins s σ H D I ⟨ρ, rp, o⟩ => ps_continue.run pins s σ H D I (o σ H (.refl rp))⟩
theorem psn_retN : PS X (.Return none pos) (rdY X G fun ρ => .ret (.im .none) ρ) := ⟨fun pins s σ H D I ⟨ρ, rp, o⟩ => ps_retN.run pins s σ H D I (o .non σ H (.refl rp) .non)⟩
theorem RvOk.ret {v : V} {s : Sl} {H' : Hp} {ρ' : Sv} (h : RvOk G σ ρ H ρ' H' v s) : RetOk G H' v s := by
  cases s with
  | im d => exact h
  | own c => obtain ⟨a, e, h1, h2, _⟩ := h; exact ⟨a, e, h1, h2⟩
  | bor c => exact h
  | chg c => exact h
theorem psn_ret {f : Sv → R (Sl × Sv)} (h : PE X e (rdV X G f)) : PS X (.Return (some e) pos) (rdY X G fun ρ => (f ρ).out fun r => .ret r.1 r.2) :=
  ⟨fun pins s σ H D I ⟨ρ, rp, o⟩ => (ps_ret h).run pins s σ H D I ⟨ρ, rp, (OutS.bind o).mono fun r _ q v H' st rv => q v σ H' st.s rv.ret⟩⟩
theorem psn_expr {f : Sv → R (Sl × Sv)} (h : PE X e (rdV X G f)) (hs : swapsWith e none pos.line X.env = pure false) : PS X (.Expr e pos) (rdY X G fun ρ => (f ρ).out fun r => .nx r.2) :=
  ⟨fun pins s σ H D I ⟨ρ, rp, o⟩ => (ps_expr h hs).run pins s σ H D I ⟨ρ, rp, (OutS.bind o).mono fun r _ q v H' st rv => q σ H' st.s⟩⟩
theorem psn_if {c : Expr} {a b : List Stmt} {fc : Sv → R (Bool × Sv)} {f g : Sv → Out} (hc : PT X c (rdT X G fc)) (ha : PSs X a (rdY X G f)) (hb : PSs X b (rdY X G g)) :
    PS X (.If c a b pos) (rdY X G fun ρ => (fc ρ).out fun r => if r.1 = true then f r.2 else g r.2) := by
  refine ⟨fun pins s σ H D I ⟨ρ, rp, o⟩ => (ps_if hc ha hb).run pins s σ H D I ⟨ρ, rp, (OutS.bind o).mono fun r _ q H1 st => ?_⟩⟩
  obtain ⟨k, ρ1⟩ := r
  cases k with
  | true => exact ⟨ρ1, st.rp, OutS.later st.s q⟩
  | false => exact ⟨ρ1, st.rp, OutS.later st.s q⟩
/-- name = e -/
theorem psn_set {i : Nat} {x : Str} {pos' : Pos} {f : Sv → R (Sl × Sv)} (hN : X.N.Nodup) (hi : X.N[i]? = some x) (hx : Loc X.env.scope x) (hf : X.fn x = true ∨ X.env.scope.names.lookup x = some .local) (he : PE X e (rdV X G f)) (hs : swapsWith e (some (.Name x pos')) pos.line X.env = pure false) :
    PS X (.Assign [.Name x pos'] e pos) (rdY X G fun ρ => (f ρ).out fun r => (bindP (.v i) r.1 r.2).out .nx) := by
  refine ⟨fun pins s σ H D I ⟨ρ, rp, o⟩ => (ps_set hN hi hx he hs hf).run pins s σ H D I ⟨ρ, rp, (OutS.bind o).mono fun r _ q v H1 st rv => ?_⟩⟩
  obtain ⟨sl, ρ1⟩ := r
  have q : OutS X G σ ρ H D ((bindP (.v i) sl ρ1).out .nx) := q
  cases sl with
  | im d => exact q _ H1 (.set st rv)
  | own c => exact q _ H1 (.set st rv)
  | bor c => exact False.elim rv
  | chg c => exact False.elim rv
theorem psn_setB {i : Nat} {x : Str} {pos' : Pos} {f : Sv → R (Sl × Sv)} (hi : X.N[i]? = some x) (hx : X.env.scope.names.lookup x = some .local) (he : PU X e (rdV X G f)) (hs : swapsWith e (some (.Name x pos')) pos.line X.env = pure true) :
    PS X (.Assign [.Name x pos'] e pos) (rdY X G fun ρ => (f ρ).out fun r => (bindP (.v i) r.1 r.2).out .nx) := by
  refine ⟨fun pins s σ H D I ⟨ρ, rp, o⟩ => he.run i x pos' pos hi hx hs pins s σ H D I ⟨ρ, rp, (OutS.bind o).mono fun r _ q v H1 st rv => ?_⟩⟩
  obtain ⟨sl, ρ1⟩ := r
  have q : OutS X G σ ρ H D ((bindP (.v i) sl ρ1).out .nx) := q
  cases sl with
  | im d => exact q _ H1 (.set st rv)
  | own c => exact q _ H1 (.set st rv)
  | bor c => exact False.elim rv
  | chg c => exact False.elim rv
theorem sws_false {tg e : Expr} {l : Nat} {env : PySem.Env} (h : ∀ x p, tg ≠ .Name x p) : swapsWithSole [tg] e l env = pure false := by
  show swapsWith e (some tg) l env = pure false
  unfold swapsWith
  cases e <;> first
    | rfl
    | (cases tg <;> first | rfl | exact absurd rfl (h _ _))
/-- a, b = e -/
theorem psn_tup {ps : List Pt} {es : List Expr} {k : Nat} {tpos : Pos} {f : Sv → R (Sl × Sv)} (he : PE X e (rdV X G f)) (hg : PG X (.Tuple es k tpos) (rdG G (.t ps))) (hw : swappedStores [.Tuple es k tpos] e X.env = pure none) :
    PS X (.Assign [.Tuple es k tpos] e pos) (rdY X G fun ρ => (f ρ).out fun r => (bindP (.t ps) r.1 r.2).out .nx) := by
  refine ⟨fun pins s σ H D I ⟨ρ, rp, o⟩ => (ps_asg he hg (sws_false fun x p => by intro z; cases z) hw).run pins s σ H D I ⟨ρ, rp, (OutS.bind o).mono fun r _ q v H1 st rv => ?_⟩⟩
  obtain ⟨sl, ρ1⟩ := r
  have q : OutS X G σ ρ H D ((bindP (.t ps) sl ρ1).out .nx) := q
  cases sl with
  | im d =>
    cases eb : bindP (.t ps) (.im d) ρ1 with
    | bad => rw [eb] at q; exact False.elim q
    | exc x ρ' => exact absurd eb (bindP_ne _ _ _ _ _)
    | ok ρ2 =>
      rw [eb] at q
      exact ⟨d, ρ1, ρ2, st.rp, rv, eb, fun σ' r' of => q σ' H1 (.off st eb r' of)⟩
  | own c => simp [bindP] at q; exact False.elim q
  | bor c => exact False.elim rv
  | chg c => exact False.elim rv
/-- x += e, ints -/
theorem augD_ok {op : Bop} {c : Cn} {d r : Wk.D} (h : augD op c d = .ok r) : ∃ i j, c = .dat (.int i) ∧ d = .int j ∧ ((op = .add ∧ r = .int (i + j)) ∨ (op = .sub ∧ r = .int (i - j))) := by
  unfold augD at h
  split at h
  · cases h; exact ⟨_, _, rfl, rfl, .inl ⟨rfl, rfl⟩⟩
  · cases h; exact ⟨_, _, rfl, rfl, .inr ⟨rfl, rfl⟩⟩
  · cases h
theorem augD_ne (op : Bop) (c : Cn) (d : Wk.D) (x : Ex) (ρ : Sv) : augD op c d ≠ .exc x ρ := by
  unfold augD
  split <;> exact fun z => by cases z
theorem Stp.im {i : Nat} {d : Wk.D} {v : V} (st : Stp G σ ρ H ρ1 H1) (dn : Dn G.K H1 v d) : StpS G σ ρ H (σ.set i (some v)) (setS ρ1 i (.im d)) H1 := StpS.set (s := .im d) st dn
theorem psn_aug {i : Nat} {x : Str} {op : Bop} {tpos : Pos} {f : Sv → R (Wk.D × Sv)} (hN : X.N.Nodup) (hi : X.N[i]? = some x) (hx : Loc X.env.scope x) (hf : X.fn x = true ∨ X.env.scope.names.lookup x = some .local) (he : PE X e (rdD X G f)) (hop : op = .add ∨ op = .sub) :
    PS X (.AugAssign (.Name x tpos) (opOf op) e pos) (rdY X G fun ρ => (slotC ρ i).out fun c => (f ρ).out fun r => (augD op c r.1).out fun d => .nx (setS r.2 i (.im d))) := by
  refine ⟨fun pins s σ H D I ⟨ρ, rp, o⟩ => ?_⟩
  obtain ⟨c, e1, o⟩ := (OutS.bind o).get (slotC_ne _ _)
  obtain ⟨v, hv, cn⟩ := slot_cn rp e1
  have body : Out3 X G σ ρ H (f ρ) fun r => ∀ y H1, Stp G σ ρ H r.2 H1 → Dn G.K H1 y r.1 → ∃ i j, v = .int i ∧ y = .int j ∧ ((op = .add → D.nx (σ.set ‹Nat› (some (.int (i + j)))) H1) ∧ (op = .sub → D.nx (σ.set ‹Nat› (some (.int (i - j)))) H1)) := by
    refine (OutS.bind o).mono fun r _ q y H1 st dn => ?_
    obtain ⟨d, e2, q⟩ := (OutS.bind q).get (augD_ne _ _ _)
    obtain ⟨a, b, h1, h2, h3⟩ := augD_ok e2
    rw [h1] at cn
    obtain rfl := Dr.int_eq cn
    rw [h2] at dn
    obtain rfl := dn.int_eq
    refine ⟨a, b, rfl, rfl, fun z => ?_, fun z => ?_⟩
    · rcases h3 with ⟨_, h3⟩ | ⟨h3, _⟩
      · rw [h3] at q; exact q _ H1 (st.im (.int _))
      · rw [z] at h3; cases h3
    · rcases h3 with ⟨h3, _⟩ | ⟨_, h3⟩
      · rw [z] at h3; cases h3
      · rw [h3] at q; exact q _ H1 (st.im (.int _))
  rcases hop with hop | hop
  · subst hop
    refine (ps_aug hN hi hx he ip_add hf).run pins s σ H D I ⟨v, hv, ρ, rp, body.mono fun r _ q y H1 st dn => ?_⟩
    obtain ⟨a, b, h1, h2, h3, _⟩ := q y H1 st dn
    exact ⟨a, b, h1, h2, h3 rfl⟩
  · subst hop
    refine (ps_aug hN hi hx he ip_sub hf).run pins s σ H D I ⟨v, hv, ρ, rp, body.mono fun r _ q y H1 st dn => ?_⟩
    obtain ⟨a, b, h1, h2, _, h3⟩ := q y H1 st dn
    exact ⟨a, b, h1, h2, h3 rfl⟩

/-! ### a container is changed -/
/-- the changed container of a slot -/
def reC (c : Ct) : Sl → Option Sl
  | .own _ => some (.own c)
  | .chg _ => some (.chg c)
  | _ => none
theorem StpS.write {i : Nat} {a : Addr} {o : HO} {c0 c : Ct} {s s' : Sl} (st : Stp G σ ρ H ρ1 H1) (ei : ρ1[i]? = some (some s)) (hs : s = .own c0 ∨ s = .chg c0) (hσ : σ[i]? = some (some (V.ref a))) (soft : Soft (H1 a)) (hc : CtAt G.K (upd H1 a o) a c) (hs' : reC c s = some s') : StpS G σ ρ H σ (setS ρ1 i s') (upd H1 a o) := by
  have om : isOM ρ1[i]? = true := by rw [ei]; rcases hs with e | e <;> rw [e] <;> rfl
  have oa : OA σ ρ1 a := ⟨i, om, hσ⟩
  have prov : G.W0 a ∨ G.H0 a = none := oa.prov st.rp
  have kind : (s' = .own c ∧ s = .own c0 ∧ G.H0 a = none) ∨ (s' = .chg c ∧ s = .chg c0 ∧ G.W0 a) := by
    obtain ⟨v, hv, ok⟩ := st.rp.slot i s ei
    rw [hσ] at hv
    cases hv
    rcases hs with e | e
    · subst e
      cases hs'
      obtain ⟨b, e, _, h⟩ := ok
      cases e
      exact .inl ⟨rfl, rfl, h⟩
    · subst e
      cases hs'
      obtain ⟨b, e, _, h⟩ := ok
      cases e
      exact .inr ⟨rfl, rfl, h⟩
  have r1 : Rp G (upd H1 a o) σ (wipeS ρ1 [i]) := (st.rp.forget [i]).upd soft prov fun j hj z => by
    obtain ⟨q1, q2⟩ := isCt_wipe hj
    exact st.rp.sep i j a (fun e => q2 (by rw [e]; exact List.mem_singleton.mpr rfl)) om q1 hσ z
  have e3 : (wipeS ρ1 [i]).set i (some s') = setS ρ1 i s' := by
    show ((wipeS ρ1 []).set i none).set i _ = _
    rw [List.set_set]
    rfl
  have ok : SlOk G (upd H1 a o) (.ref a) s' := by
    rcases kind with ⟨e, _, h⟩ | ⟨e, _, h⟩
    · rw [e]; exact ⟨a, rfl, hc, h⟩
    · rw [e]; exact ⟨a, rfl, hc, h⟩
  have r2 := r1.put (i := i) (s := s') hσ ok (fun _ b j e hj hm z => by
      cases e
      exact st.rp.sep i j a (Ne.symm hj) om (isCt_wipe hm).1 hσ z) (fun _ b j e hj hm z => by
      cases e
      exact st.rp.sep i j a (Ne.symm hj) om (isCt_of_OM (isOM_wipe hm).1) hσ z)
  rw [e3] at r2
  refine ⟨r2, st.ext.trans (Ext.upd (W := OA σ ρ1) soft (.inl oa)) fun b z => .inl (z.sub st.sub), fun b ⟨j, h1, h2⟩ => .inl ?_, fun j c' q => ⟨?_, rfl⟩, fun j c' q => ⟨?_, rfl⟩⟩
  · rcases om_set h1 with ⟨e1, _⟩ | ⟨_, q⟩
    · rw [e1, hσ] at h2; cases h2; exact oa.sub st.sub
    · exact ⟨j, st.sub j q, h2⟩
  · rcases get_set q with ⟨_, e2, _⟩ | ⟨_, e2⟩
    · cases e2
      rcases kind with ⟨e, _⟩ | ⟨e, _⟩ <;> cases e
    · exact st.bc.bor j c' e2
  · rcases get_set q with ⟨e1, e2, _⟩ | ⟨_, e2⟩
    · cases e2
      rcases kind with ⟨e, _⟩ | ⟨e, h, _⟩
      · cases e
      · rw [h] at ei; rw [e1]; exact st.bc.chg i _ ei
    · exact st.bc.chg j c' e2
theorem getS_ok {i : Nat} {s : Sl} (h : getS ρ i = .ok s) : ρ[i]? = some (some s) := by
  unfold getS at h
  split at h
  · cases h; assumption
  · cases h
theorem getS_ne (ρ0 : Sv) (i : Nat) (x : Ex) (ρ : Sv) : getS ρ0 i ≠ .exc x ρ := by
  unfold getS
  split <;> exact fun z => by cases z
theorem appC_ne (d : Wk.D) (s : Sl) (x : Ex) (ρ : Sv) : appC d s ≠ .exc x ρ := by
  unfold appC
  split <;> first | exact guard_some fun z => by cases z | exact fun z => by cases z
theorem appC_ok {d : Wk.D} {s s' : Sl} (h : appC d s = .ok s') : ∃ xs, (s = .own (.lst xs) ∨ s = .chg (.lst xs)) ∧ xs.length < lineN ∧ reC (.lst (xs ++ [d])) s = some s' := by
  unfold appC at h
  split at h
  · obtain ⟨g, h⟩ := guardR_ok h; cases h; exact ⟨_, .inl rfl, of_decide_eq_true g, rfl⟩
  · obtain ⟨g, h⟩ := guardR_ok h; cases h; exact ⟨_, .inr rfl, of_decide_eq_true g, rfl⟩
  · cases h
theorem own_at {i : Nat} {s : Sl} {c : Ct} (rp : Rp G H1 σ ρ1) (ei : ρ1[i]? = some (some s)) (hs : s = .own c ∨ s = .chg c) : ∃ a, σ[i]? = some (some (V.ref a)) ∧ CtAt G.K H1 a c := by
  obtain ⟨v, hv, ok⟩ := rp.slot i s ei
  rcases hs with e | e
  · subst e; obtain ⟨a, rfl, h, _⟩ := ok; exact ⟨a, hv, h⟩
  · subst e; obtain ⟨a, rfl, h, _⟩ := ok; exact ⟨a, hv, h⟩
/-- xs.append(e) -/
theorem psn_app {i : Nat} {o : Expr} {apos cpos : Pos} {f : Sv → R (Wk.D × Sv)} (hK : X.K = G.K) (ho : PE X o (tVar i)) (he : PE X e (rdD X G f)) (hb : plainBase o = true) (hs : notStar e = true) (hl : (apos.endLine == cpos.line) = true) :
    PS X (.Expr (.Call (.Attribute o "append" apos) [e] [] cpos) pos) (rdY X G fun ρ => (slotC ρ i).out fun c0 => (guardR (isListC c0) (f ρ)).out fun r => (getS r.2 i).out fun s => (appC r.1 s).out fun s => .nx (setS r.2 i s)) := by
  refine ⟨fun pins s σ H D I ⟨ρ, rp, o1⟩ => ?_⟩
  obtain ⟨c0, e1, o1⟩ := (OutS.bind o1).get (slotC_ne _ _)
  obtain ⟨g, o1⟩ := Out3.guard (OutS.bind o1)
  obtain ⟨v, hv, cn⟩ := slot_cn rp e1
  refine (ps_expr (pe_bm (T := "list") (r := rAppend) (name := "append") (id := "list.append") F.plainAttrs_list F.slot_list_append F.type_list_append mt_append ho (pa_cons he pa_nil (star_one hs)) (base_plain hb) (by rw [star_one hs]; rfl) hl (star_one hs) (by rfl)) (by rfl)).run pins s σ H D I ⟨v, hv, ?_, ρ, rp, o1.mono fun r _ q y H1 st dn => ?_⟩
  · cases c0 with
    | dat d => cases d with
      | list ds => obtain ⟨a, xs, rfl, h1, _⟩ := Dr.list cn; exact .inl ⟨rfl, xs, hK ▸ h1⟩
      | _ => cases g
    | dct kvs => cases g
    | set xs => cases g
  · obtain ⟨sl, e2, q⟩ := (OutS.bind q).get (getS_ne _ _)
    obtain ⟨sl', e3, q⟩ := (OutS.bind q).get (appC_ne _ _)
    obtain ⟨xs, h1, h2, h3⟩ := appC_ok e3
    obtain ⟨a, ha, vs, hc, hd⟩ := own_at st.rp (getS_ok e2) h1
    rw [hv] at ha
    cases ha
    have soft : Soft (H1 a) := by rw [hc]; trivial
    refine ⟨a, vs, y, rfl, rfl, hc, ?_, q σ _ (StpS.write (c := .lst (xs ++ [r.1])) st (getS_ok e2) h1 hv soft ⟨_, upd_same, (hd.append (.cons dn .nil)).still (.upd soft)⟩ h3)⟩
    rw [hd.length]
    have := lineN_le
    omega
/-- o[k] = v, a list or a dict -/
def rSetA : TSet := fun o i v H Q => rSetL o i v H Q ∨ rSetD o i v H Q
theorem set_any (hu : X.A.units + 1 < cLine) : PSet X rSetA := by
  intro pins s σ H o i v ov iv u Q I ro ri rv h
  rcases h with h | h
  · exact set_list pins s σ H o i v ov iv u Q I ro ri rv h
  · exact set_dict hu pins s σ H o i v ov iv u Q I ro ri rv h
theorem setL_ne (xs : List Wk.D) (k d : Wk.D) (x : Ex) (ρ : Sv) : setL xs k d ≠ .exc x ρ := by
  unfold setL
  split
  · split <;> exact fun z => by cases z
  · exact fun z => by cases z
theorem setC_ok {k d : Wk.D} {s s' : Sl} (h : setC k d s = .ok s') : (∃ xs j i, (s = .own (.lst xs) ∨ s = .chg (.lst xs)) ∧ k = .int i ∧ ixN xs.length i = some j ∧ reC (.lst (xs.set j d)) s = some s') ∨
    ∃ kvs, (s = .own (.dct kvs) ∨ s = .chg (.dct kvs)) ∧ isKey k = true ∧ kvs.length < lineN ∧ reC (.dct (putD k d kvs)) s = some s' := by
  have lst : ∀ {xs ys : List Wk.D}, setL xs k d = .ok ys → ∃ j i, k = .int i ∧ ixN xs.length i = some j ∧ ys = xs.set j d := fun {xs ys} h => by
    unfold setL at h
    split at h
    · split at h
      · cases h; exact ⟨_, _, rfl, by assumption, rfl⟩
      · cases h
    · cases h
  unfold setC at h
  split at h
  · obtain ⟨ys, h1, h2⟩ := R.map_ok h
    obtain ⟨j, i, e1, e2, e3⟩ := lst h1
    subst e3 h2
    exact .inl ⟨_, j, i, .inl rfl, e1, e2, rfl⟩
  · obtain ⟨ys, h1, h2⟩ := R.map_ok h
    obtain ⟨j, i, e1, e2, e3⟩ := lst h1
    subst e3 h2
    exact .inl ⟨_, j, i, .inr rfl, e1, e2, rfl⟩
  · obtain ⟨g, h⟩ := guardR_ok h
    cases h
    obtain ⟨g1, g2⟩ := Bool.and_eq_true_iff.mp g
    exact .inr ⟨_, .inl rfl, g1, of_decide_eq_true g2, rfl⟩
  · obtain ⟨g, h⟩ := guardR_ok h
    cases h
    obtain ⟨g1, g2⟩ := Bool.and_eq_true_iff.mp g
    exact .inr ⟨_, .inr rfl, g1, of_decide_eq_true g2, rfl⟩
  · cases h
theorem setC_ne (k d : Wk.D) (s : Sl) (x : Ex) (ρ : Sv) : setC k d s ≠ .exc x ρ := by
  have lst : ∀ {xs : List Wk.D} (f : List Wk.D → Sl), (setL xs k d >>= fun ys => R.ok (f ys)) ≠ .exc x ρ := fun {xs} f z => by
    cases e : setL xs k d with
    | ok ys => rw [e] at z; cases z
    | bad => rw [e] at z; cases z
    | exc y ρ2 => exact setL_ne _ _ _ _ _ e
  unfold setC
  split
  · exact lst fun ys => .own (.lst ys)
  · exact lst fun ys => .chg (.lst ys)
  · exact guard_some fun z => by cases z
  · exact guard_some fun z => by cases z
  · exact fun z => by cases z
def notSlice : Expr → Bool
  | .Slice _ _ _ _ => false
  | _ => true
theorem psn_sti {i : Nat} {o key : Expr} {tpos : Pos} {f g : Sv → R (Wk.D × Sv)} (hu : X.A.units + 1 < cLine) (hK : X.K = G.K) (ho : PE X o (tVar i)) (hk : PE X key (rdD X G g)) (he : PE X e (rdD X G f)) (hs : notSlice key = true) :
    PS X (.Assign [.Subscript o key tpos] e pos) (rdY X G fun ρ => (f ρ).out fun r => (slotC r.2 i).out fun _ => (g r.2).out fun rk => (getS rk.2 i).out fun s => (setC rk.1 r.1 s).out fun s => .nx (setS rk.2 i s)) := by
  have hg : PG X (.Subscript o key tpos) (gSub (rdS X G i) (rdD X G g) rSetA) := pg_sub (ps_of ho) hk (set_any hu) (fun v => by cases key <;> first | rfl | cases hs)
  refine ⟨fun pins s σ H D I ⟨ρ, rp, o1⟩ => (ps_asg he hg (sws_false fun x p => by intro z; cases z) (by rfl)).run pins s σ H D I ⟨ρ, rp, (OutS.bind o1).mono fun r _ q v H1 st dn => ?_⟩⟩
  refine ⟨r.2, st.rp, (Out3.later st (OutS.bind q)).mono fun c0 _ q p hp cn => ⟨r.2, st.rp, (Out3.later st (OutS.bind q)).mono fun rk _ q y H2 st2 dk => ?_⟩⟩
  have st3 := st.trans st2
  obtain ⟨sl, e2, q⟩ := (OutS.bind q).get (getS_ne _ _)
  obtain ⟨sl', e3, q⟩ := (OutS.bind q).get (setC_ne _ _ _)
  have dn2 := dn.still st2.ext.still
  rcases setC_ok e3 with ⟨xs, j, n, h1, h2, h3, h4⟩ | ⟨kvs, h1, h2, h3, h4⟩
  · obtain ⟨a, ha, vs, hc, hd⟩ := own_at st3.rp (getS_ok e2) h1
    rw [hp] at ha
    cases ha
    have soft : Soft (H2 a) := by rw [hc]; trivial
    rw [h2] at dk
    obtain rfl := dk.int_eq
    exact .inl ⟨a, vs, n, j, rfl, rfl, hc, by rw [hd.length]; exact h3, q σ _ (StpS.write (c := .lst (xs.set j r.1)) st3 (getS_ok e2) h1 hp soft ⟨_, upd_same, (hd.set j dn2).still (.upd soft)⟩ h4)⟩
  · obtain ⟨a, ha, vs, hc, hd⟩ := own_at st3.rp (getS_ok e2) h1
    rw [hp] at ha
    cases ha
    have soft : Soft (H2 a) := by rw [hc]; trivial
    obtain ⟨k, rfl⟩ := dk.key h2
    refine .inr ⟨a, _, rfl, .inl ⟨vs, k, hc, rfl, ?_, rfl⟩, q σ _ (StpS.write (c := .dct (putD rk.1 r.1 kvs)) st3 (getS_ok e2) h1 hp soft ⟨_, upd_same, (key_put dk dn2 hd).still (.upd soft)⟩ h4)⟩
    rw [hd.length]
    have := lineN_le
    omega

/-! ### loops -/
theorem psn_while {c : Expr} {body : List Stmt} {fc : Sv → R (Bool × Sv)} {fb : Sv → Out} (fu : Nat) (hp : PassesOwn (model X.prog X.w) X.A X.env X.xe) (hc : PT X c (rdT X G fc)) (hb : PSs X body (rdY X G fb)) : PS X (.While c body [] pos) (rdY X G (loopW fc fb fu)) := by
  refine ⟨fun pins s σ H D I ⟨ρ, rp, o⟩ => (ps_while hp hc hb).run pins s σ H D I ⟨fun m σ' H' => ∃ ρ', Rp G H' σ' ρ' ∧ OutS X G σ' ρ' H' D (loopW fc fb m ρ'), ⟨fu, ρ, rp, o⟩, fun m σ' H' ⟨ρ', rp', o'⟩ => ?_⟩⟩
  cases m with
  | zero => exact False.elim o'
  | succ m =>
    have o' : OutS X G σ' ρ' H' D ((fc ρ').out fun r => if r.1 = true then (match fb r.2 with
      | .nx ρ2 => loopW fc fb m ρ2
      | .cnt ρ2 => loopW fc fb m ρ2
      | .brk ρ2 => .nx ρ2
      | o => o) else .nx r.2) := o'
    refine ⟨ρ', rp', (OutS.bind o').mono fun r _ q H1 st1 => ?_⟩
    obtain ⟨k, ρ1⟩ := r
    cases k with
    | false => exact q _ H1 st1.s
    | true =>
      refine ⟨fun σ'' H'' => ∃ ρ'', Rp G H'' σ'' ρ'' ∧ OutS X G σ'' ρ'' H'' D (loopW fc fb m ρ''), fun σ'' H'' n => ⟨m, Nat.lt_succ_self m, n⟩, ρ1, st1.rp, ?_⟩
      have q : OutS X G σ' ρ' H' D (match fb ρ1 with
        | .nx ρ2 => loopW fc fb m ρ2
        | .cnt ρ2 => loopW fc fb m ρ2
        | .brk ρ2 => .nx ρ2
        | o => o) := q
      have q := OutS.later st1.s q
      cases e : fb ρ1 with
      | nx ρ2 => rw [e] at q; exact fun σ'' H'' st => ⟨ρ2, st.rp, q.later st⟩
      | cnt ρ2 => rw [e] at q; exact fun σ'' H'' st => ⟨ρ2, st.rp, q.later st⟩
      | brk ρ2 => rw [e] at q; exact q
      | ret v ρ2 => rw [e] at q; exact q
      | exc x ρ2 => rw [e] at q; exact q
      | bad => rw [e] at q; exact q
/-- behind a loop whose slots were locked -/
theorem OutS.unlock {is : List Nat} (rp : Rp G H σ ρ) (h : OutS X G σ ρ H D (o.unlock ρ is)) : OutS X G σ (lockS ρ is) H ⟨fun σ' H' => ∃ ρ', StpS G σ (lockS ρ is) H σ' ρ' H' ∧ OutS X G σ ρ H D (.nx (Wk.unlock ρ' ρ is)), D.rt, fun _ _ => False, fun _ _ => False⟩ o ∨ (∃ ρ', o = .brk ρ') ∨ ∃ ρ', o = .cnt ρ' := by
  cases o with
  | nx ρ' => exact .inl fun σ' H' st => ⟨ρ', st, h⟩
  | ret v ρ' => exact .inl fun v σ' H' st r => h v σ' H' (StpS.unlock rp st) r
  | brk ρ' => exact .inr (.inl ⟨ρ', rfl⟩)
  | cnt ρ' => exact .inr (.inr ⟨ρ', rfl⟩)
  | exc x ρ' => exact .inl (Takes.imp h fun c d σ' H' ⟨e2, e3⟩ => ⟨e2, StpS.unlock rp e3⟩)
  | bad => exact .inl h
theorem loopF_no (p : Pt) (fb : Sv → Out) : ∀ (xs : List Wk.D) (ρ ρ' : Sv), loopF p fb xs ρ ≠ .brk ρ' ∧ loopF p fb xs ρ ≠ .cnt ρ'
  | [], ρ, ρ' => ⟨(fun z => by cases z), fun z => by cases z⟩
  | x :: xs, ρ, ρ' => by
    unfold loopF
    cases e : bindP p (.im x) ρ with
    | bad => exact ⟨(fun z => by cases z), fun z => by cases z⟩
    | exc y ρ1 => exact ⟨(fun z => by cases z), fun z => by cases z⟩
    | ok ρ1 =>
      show (match fb ρ1 with
        | .nx ρ2 => loopF p fb xs ρ2
        | .cnt ρ2 => loopF p fb xs ρ2
        | .brk ρ2 => .nx ρ2
        | o => o) ≠ .brk ρ' ∧ (match fb ρ1 with
        | .nx ρ2 => loopF p fb xs ρ2
        | .cnt ρ2 => loopF p fb xs ρ2
        | .brk ρ2 => .nx ρ2
        | o => o) ≠ .cnt ρ'
      cases fb ρ1 with
      | nx ρ2 => exact loopF_no p fb xs ρ2 ρ'
      | cnt ρ2 => exact loopF_no p fb xs ρ2 ρ'
      | brk ρ2 => exact ⟨(fun z => by cases z), fun z => by cases z⟩
      | ret v ρ2 => exact ⟨(fun z => by cases z), fun z => by cases z⟩
      | exc y ρ2 => exact ⟨(fun z => by cases z), fun z => by cases z⟩
      | bad => exact ⟨(fun z => by cases z), fun z => by cases z⟩
theorem psn_for {iter : Expr} {body : List Stmt} {p : Pt} {is : List Nat} {f : Sv → R (List Wk.D × Sv)} {fb : Sv → Out} (hp : PassesOwn (model X.prog X.w) X.A X.env X.xe) (hc : X.calm = true) (hi : PI X tg iter (rdI X G is f)) (hg : PG X tg (rdG G p)) (hb : PSs X body (rdY X G fb)) (hs : notSet iter = true) :
    PS X (.For tg iter body [] pos) (rdY X G fun ρ => (f ρ).out fun r => (loopF p fb r.1 (lockS r.2 is)).unlock r.2 is) := by
  refine ⟨fun pins s σ H D I ⟨ρ, rp, o⟩ => (ps_for hp hc hi hg hb (not_set hs X.env)).run pins s σ H D I ⟨ρ, rp, (OutS.bind o).mono fun r _ q J H1 st hit => ?_⟩⟩
  obtain ⟨xs, ρ1⟩ := r
  have q : OutS X G σ ρ1 H1 D ((loopF p fb xs (lockS ρ1 is)).unlock ρ1 is) := OutS.later st.s q
  have rp1 : Rp G H1 σ ρ1 := st.rp
  have rl := rp1.lock is
  have it : ItOk G.K J (OA σ (lockS ρ1 is)) H1 xs := hit _ fun c z => .inl z
  -- what is wanted behind the loop, the slots locked
  have q2 : OutS X G σ (lockS ρ1 is) H1 ⟨D.nx, D.rt, fun _ _ => False, fun _ _ => False⟩ (loopF p fb xs (lockS ρ1 is)) := by
    rcases OutS.unlock rp1 q with q | ⟨ρ', q⟩ | ⟨ρ', q⟩
    · exact q.imp (fun σ' H' ⟨ρ', s1, s2⟩ => s2 σ' H' (StpS.unlock rp1 s1)) (fun _ _ h => h) (fun _ _ h => h) (fun _ _ h => h)
    · exact absurd q (loopF_no p fb xs _ _).1
    · exact absurd q (loopF_no p fb xs _ _).2
  refine ⟨fun i m σ' H' => m = xs.length - i ∧ i ≤ xs.length ∧ ∃ ρ', StpS G σ (lockS ρ1 is) H1 σ' ρ' H' ∧ OutS X G σ' ρ' H' ⟨D.nx, D.rt, fun _ _ => False, fun _ _ => False⟩ (loopF p fb (xs.drop i) ρ'), ⟨xs.length, by simp, Nat.zero_le _, _, .refl rl, by rw [List.drop_zero]; exact q2⟩, ?_⟩
  rintro i m σ' H' ⟨rfl, hi, ρ', s1, o'⟩
  by_cases hlt : i < xs.length
  · refine .inr ?_
    obtain ⟨x, ex, ed⟩ := drop_cons hlt
    rw [ed] at o'
    obtain ⟨hgo, hyl⟩ := it.go i x H' ex s1.ext
    refine ⟨hgo, fun σ'' H'' => ∃ ρ'', StpS G σ (lockS ρ1 is) H1 σ'' ρ'' H'' ∧ OutS X G σ'' ρ'' H'' ⟨D.nx, D.rt, fun _ _ => False, fun _ _ => False⟩ (loopF p fb (xs.drop (i + 1)) ρ''), fun σ'' H'' n => ⟨xs.length - (i + 1), by omega, rfl, hlt, n⟩, fun v H2 y => ?_⟩
    obtain ⟨sm, dv⟩ := hyl v H2 y
    have s2 : Stp G σ' ρ' H' ρ' H2 := .of_same s1.rp sm
    have o' : OutS X G σ' ρ' H' ⟨D.nx, D.rt, fun _ _ => False, fun _ _ => False⟩ ((bindP p (.im x) ρ').out fun ρ1 => match fb ρ1 with
      | .nx ρ2 => loopF p fb (xs.drop (i + 1)) ρ2
      | .cnt ρ2 => loopF p fb (xs.drop (i + 1)) ρ2
      | .brk ρ2 => .nx ρ2
      | o => o) := o'
    obtain ⟨ρ2, e1, o'⟩ := (OutS.bind o').get (bindP_ne _ _ _)
    refine ⟨x, ρ', ρ2, s2.rp, dv, e1, fun σ2 r2 of => ⟨ρ2, r2, ?_⟩⟩
    have s3 : StpS G σ' ρ' H' σ2 ρ2 H2 := .off s2 e1 r2 of
    have o' := OutS.later s3 o'
    have s4 := s1.trans s3
    cases e : fb ρ2 with
    | nx ρ3 => rw [e] at o'; exact fun σ'' H'' st => ⟨ρ3, s4.trans st, o'.later st⟩
    | cnt ρ3 => rw [e] at o'; exact fun σ'' H'' st => ⟨ρ3, s4.trans st, o'.later st⟩
    | brk ρ3 => rw [e] at o'; exact o'
    | ret v ρ3 => rw [e] at o'; exact o'
    | exc x ρ3 => rw [e] at o'; exact o'
    | bad => rw [e] at o'; exact o'
  · have e : i = xs.length := by omega
    subst e
    rw [List.drop_length] at o'
    exact .inl ⟨it.stop _ H' (Nat.le_refl _) s1.ext, o' σ' H' (.refl s1.rp)⟩
end
end Wk

set_option Elab.async false
set_option linter.all false
set_option maxRecDepth 100000
set_option maxHeartbeats 8000000
/-! generator expressions whose elements may call defs -/
namespace Wk
open PySem PySem.Spec PyProof.Rows L2 GenW

/-- the context of a generator expression's frame: its run begins at s, H -/
abbrev genX (X : Cx) (s : Shared) (H : Hp) (genv : PySem.Env) (fp : List Addr) (Ag : Around) (pn : List (Addr × Obj)) : Cx :=
  { X with A := Ag, s_0 := s, H_0 := H, env := genv, outer := X.stack, stack := genv :: X.stack, ex := fp, fn := fun _ => false, pn := pn, xe := fun _ _ => False }
/-- the names of a generator expression -/
structure GenOk (N : List Str) (sc scope : Scope) (own : List (Str × Nat)) : Prop where
  blk : BlkOk N sc scope own
  cell : ∀ y ∈ scope.names, y.2 ≠ .cell
  co : scope.isCoroutine = false
  dot : scope.names.lookup (".0" : Str) = some NameKind.local
section
variable {X : Cx} {pins : List (Addr × Obj)} {σ : L2.St} {H : Hp} {s s1 : Shared}
theorem gen_start {scope : Scope} {own : List (Str × Nat)} {fp : List Addr} {code : Value} {Ag : Around} {pn pins1 : List (Addr × Obj)} (I : Inv X pins σ H s) (ok : GenOk X.N X.env.scope scope own) (hN : X.N.Nodup) (hfp : ∀ b ∈ fp, FpOk X pins H b ∧ b < s.heap.objs.size)
    (kp : ∀ b o, s.heap.get? b = some o → s1.heap.get? b = some o) (os : s1.os = s.os) (bare : AllBare s1.gens) (hn1 : ∃ m, s1.heap.Ns s.heap.objs.size m) (hh : Ag.handled = none) (hfr : Ag.frames = some (genEnv scope (cloFrom X.env.cells scope.names []) s.heap.objs.size code builtinsNs X.env :: X.stack))
    (hpn : ∀ p ∈ pn ++ pins1, s1.heap.get? p.1 = some p.2 ∧ s.heap.objs.size < p.1 ∧ ∀ v, p.2.data ≠ .cell v) :
    Inv (genX X s H (genEnv scope (cloFrom X.env.cells scope.names []) s.heap.objs.size code builtinsNs X.env) fp Ag pn) pins1 (wipe σ (own.map (·.2))) H s1 := by
  have hfree : ∀ y ∈ scope.names, y.2 = .free → ∃ c, X.env.cells.lookup y.1 = some c := fun y hy e => by
    rcases ok.blk.free y hy e with k | k
    · exact I.ok.has _ (.inl k)
    · exact I.ok.has _ (.inr k)
  generalize hcenv : genEnv scope (cloFrom X.env.cells scope.names []) s.heap.objs.size code builtinsNs X.env = cenv at hfr ⊢
  have hL : cenv.locals = s.heap.objs.size := by rw [← hcenv]; rfl
  have hcl : cenv.cells = cloFrom X.env.cells scope.names [] := by rw [← hcenv]; rfl
  have hsc : cenv.scope = scope := by rw [← hcenv]; rfl
  have cm : ∀ {y c}, (y, c) ∈ cloFrom X.env.cells scope.names [] → X.env.cells.lookup y = some c ∧ c < s.heap.objs.size := fun {y c} hm => by
    rcases cloFrom_mem hm with hm | ⟨h1, rfl⟩
    · cases hm
    · obtain ⟨c, hc⟩ := hfree _ h1 rfl
      rw [hc]
      obtain ⟨w, z⟩ := I.cell _ _ hc
      exact ⟨rfl, z.lt⟩
  have mem : ∀ {y c}, cenv.cells.lookup y = some c → X.env.cells.lookup y = some c ∧ c < s.heap.objs.size := fun {y c} e => by
    rw [hcl] at e
    exact cm (PySem.mem_of_lookup e)
  have look : ∀ {y}, scope.names.lookup y = some .free → ∃ c, cenv.cells.lookup y = some c ∧ X.env.cells.lookup y = some c := fun {y} hl => by
    have hy : (y, NameKind.free) ∈ scope.names := PySem.mem_of_lookup hl
    obtain ⟨c', e'⟩ := mem_lookup (cloFrom_has (cells := X.env.cells) (acc := []) hy)
    rw [← hcl] at e'
    exact ⟨c', e', (mem e').1⟩
  have free_of : ∀ {y}, Vis scope y → scope.names.lookup y = some .local ∨ scope.names.lookup y = some .free := fun {y} h => by
    rcases h with h | h | h
    · exact .inl h
    · exact absurd rfl (ok.cell _ (PySem.mem_of_lookup h))
    · exact .inr h
  have okB : (genX X s H cenv fp Ag pn).Ok := by
    refine ⟨I.ok.mod, (by show cenv.scope.kind = _; rw [hsc]; exact ok.blk.kind), (by show cenv.globals = _; rw [← hcenv]; exact I.ok.glob), (by show cenv.builtins = _; rw [← hcenv]; rfl), (by show s.heap.objs.size ≤ cenv.locals; rw [hL]; exact Nat.le_refl _),
      fun y z c e1 e2 => I.ok.inj y z c (mem e1).1 (mem e2).1, fun y hy => ?_, (fun y c z e => by cases z), (fun _ => hh), hfr, (.inr ⟨rfl, by show cenv.frame = some cenv.locals; rw [← hcenv]; rfl⟩), fun b hb => ⟨?_, fun y c e z => ?_⟩, I.bs, Nat.le_trans I.ok.bsz I.sz, fun b o e hb => ?_, fun b hb z => ?_, I.stack, I.stkFree⟩
    · show ∃ c, cenv.cells.lookup y = some c
      unfold Env.kindOf at hy
      have hy : scope.names.lookup y = some .cell ∨ scope.names.lookup y = some .free := by
        have hy' : cenv.scope.names.lookup y = some .cell ∨ cenv.scope.names.lookup y = some .free := hy
        rwa [hsc] at hy'
      rcases hy with hy | hy
      · exact absurd rfl (ok.cell _ (PySem.mem_of_lookup hy))
      · obtain ⟨c, h1, _⟩ := look hy
        exact ⟨c, h1⟩
    · show b ≠ cenv.locals
      rw [hL]; exact Nat.ne_of_lt (hfp b hb).2
    · exact (hfp b hb).1.2.2.2.2.1 y c (mem e).1 z
    · rcases (hfp b hb).1.2.2.2.1 with z | z
      · exact I.ok.noex b o e z
      · exact absurd (Nat.lt_of_lt_of_le (Heap.lt_size e) (Nat.le_trans I.ok.bsz z)) (Nat.lt_irrefl _)
    · rcases List.mem_cons.mp (I.stkSub b z) with z | z
      · exact (hfp b hb).1.2.1 z
      · exact (hfp b hb).1.2.2.1 z
  have free0 : ∀ b, s.heap.objs.size ≤ b → H b = none ∧ b ∉ frs X.stack := fun b hb => ⟨I.hok.fresh hb, fun z => by
    rcases List.mem_cons.mp (I.stkSub b z) with z | z
    · exact absurd (Nat.lt_of_lt_of_le I.lt (z ▸ hb)) (Nat.lt_irrefl _)
    · exact I.nofs hb z⟩
  refine ⟨okB, os, bare, Un.kept kp, ?_, fun y c e => ?_, ?_, fun y c e => ?_, fun p hp => ?_, I.hok.kept kp, by rw [wipe_length]; exact I.len⟩
  · obtain ⟨m, hn⟩ := hn1
    refine ⟨m, by show Heap.Ns _ cenv.locals _; rw [hL]; exact hn, fun i y av e1 e2 e3 => ?_⟩
    obtain ⟨e2, hne⟩ := wipe_some e2
    have e3 : Vis cenv.scope y := e3
    rw [hsc] at e3
    have hfr : scope.names.lookup y = some .free := by
      rcases free_of e3 with h | h
      · rcases ok.blk.own _ (PySem.mem_of_lookup h) (.inl rfl) with e' | e'
        · obtain ⟨p, hp, hpy⟩ := List.mem_map.mp e'
          have e4 := ok.blk.ix p hp
          have : p.1 = y := hpy
          rw [this] at e4
          exact absurd (List.mem_map.mpr ⟨p, hp, nodup_ix hN e4 e1⟩) hne
        · exact absurd (List.mem_of_getElem? e1) e'
      · exact h
    obtain ⟨m', hn', hl⟩ := I.loc
    have hvis : Vis X.env.scope y := (ok.blk.free _ (PySem.mem_of_lookup hfr) rfl).elim (fun k => .inr (.inl k)) (fun k => .inr (.inr k))
    obtain ⟨w, r, q⟩ := hl i y av e1 e2 hvis
    obtain ⟨c, h1, h2⟩ := look hfr
    refine ⟨w, r, .inr ⟨.inr (by show cenv.scope.names.lookup y = _; rw [hsc]; exact hfr), c, h1, ?_⟩⟩
    rcases q with ⟨k, _⟩ | ⟨_, c', e', z⟩
    · have k : X.env.scope.names.lookup y = some .local := k
      rcases ok.blk.free _ (PySem.mem_of_lookup hfr) rfl with k' | k' <;> rw [show X.env.scope.names.lookup y = _ from k'] at k <;> cases k
    · rw [h2] at e'; cases e'
      exact z.keeps kp
  · obtain ⟨w, z⟩ := I.cell y c (mem e).1
    exact ⟨w, z.keeps kp⟩
  · show H cenv.locals = none
    rw [hL]; exact I.hok.fresh (Nat.le_refl _)
  · exact I.freeC y c (mem e).1
  · obtain ⟨q1, q2, q3⟩ := hpn p hp
    obtain ⟨f1, f2⟩ := free0 p.1 (Nat.le_of_lt q2)
    exact ⟨q1, f1, by show p.1 ≠ cenv.locals; rw [hL]; exact Nat.ne_of_gt q2, f2, q3⟩
end
end Wk
namespace Wk
open PySem PySem.Spec PyProof.Rows L2 GenW
theorem compTurn_genX (elt target iter : Expr) (ifs : List Expr) (scope : Scope) (pos : Pos) (it acc : Value) (env : PySem.Env) (hco : scope.isCoroutine = false) (hs : env.scope = scope) :
    compTurn (.GeneratorExp elt [⟨target, iter, ifs, 0⟩] scope pos) 0 it acc env = (do
      standAt iter.pos
      match ← pyNext it with
      | none => pure (.done .next)
      | some v =>
        letOwnedTupleGo target it v
        assign target env v
        let ok ← forIn ifs true fun c r => if r = true then do let ok ← isTrue c env (eval c env); pure (ForInStep.yield ok) else pure (ForInStep.yield r)
        if ok then
          (do let v ← eval elt env; standAt elt.pos; let _ ← yieldValue v)
        again (.compLoop (.GeneratorExp elt [⟨target, iter, ifs, 0⟩] scope pos) 0 it acc env)) := by
  have hy : ∀ v, yieldOut env v = yieldValue v := fun v => by simp only [yieldOut, hs, hco, Bool.false_eq_true, if_false]
  rw [compTurn_gen]
  simp only [hy]
  rfl
/-- what consumes a generator: GG: ys is out, with the pins ip -/
structure GCons (X : Cx) (fp : List Addr) (Y : Protocol) (GG : List (Addr × Obj) → List V → L2.St → Hp → Shared → Prop) : Prop where
  opn : ∀ ip ys σ H s, GG ip ys σ H s → ∃ pins, (∀ p ∈ pins, ∀ b ∈ fp, p.1 ≠ b) ∧ Inv X (pins ++ ip) σ H s ∧ ∀ ip' σ' H' s', Inv X (pins ++ ip') σ' H' s' → GG ip' ys σ' H' s'
  out : ∀ ip ys σ H s n s₀ x v (kap : Resume → Shared → Prop), GG ip ys σ H s → RelV x v → n + 1 + ys.length = sizeLine → (∀ p ∈ ip, p.1 ∈ fp) → (∀ s', GG ip (ys ++ [x]) σ H s' → kap (.send .none) s') → Y n s₀ v s kap
section
variable {X : Cx} {A : Around} {R : GenEnd} {Y : Protocol} {GG : List (Addr × Obj) → List V → L2.St → Hp → Shared → Prop} {elt tg iter : Expr} {ifs : List Expr} {scope : Scope} {pos : Pos} {fp : List Addr} {it : Addr} {tn : Nat → Heap → Prop} {J : It} {g : TG} {tt : TT} {te : TE} {vs : List Nat} {σw : L2.St}
theorem seg_gloop (gc : GCons X fp Y GG) (hA : A.over (.compLoop (.GeneratorExp elt [⟨tg, iter, ifs, 0⟩] scope pos) 0 (.ref it) .none X.env) [] = X.A) (hx : X.xe = fun _ _ => False) (hc : X.calm = true)
    (hex : ∀ b ∈ fp, b ∈ X.ex ∧ ∀ p ∈ X.pn, p.1 ≠ b) (hco : scope.isCoroutine = false) (hsc : X.env.scope = scope) (T : Turn X.prog X.w X.K tg J fp it tn) (pg : PG X tg g) (pt : PTs X ifs tt) (pe : PE X elt te) {Qe : List V → Hp → Prop}
    (W : Nat → Nat → List V → Hp → Prop) (turn : ∀ i m ys H, W i m ys H → (J.stop i H ∧ Qe ys H) ∨ (J.go i H ∧ ∃ Nx : List V → Hp → Prop, (∀ ys' H', Nx ys' H' → ∃ m', m' < m ∧ W (i + 1) m' ys' H') ∧
      ∀ x H', J.yld i H x H' → g x σw H' fun σ2 H2 => wipe σ2 vs = σw ∧ tt σ2 H2 fun b H3 => if b = true then te σ2 H3 fun y H4 => ys.length < sizeLine ∧ Nx (ys ++ [y]) H4 else Nx ys H3))
    (hR : ∀ n ys H s s₀, GG [] ys σw H s → Qe ys H → n + ys.length = sizeLine → R n s₀ (.ok .next) s) :
    ∀ m i n ys H s s₀, W i m ys H → n + ys.length = sizeLine → GG [] ys σw H s → tn i s.heap → (∀ b ∈ fp, H b = none) →
      Seg (model X.prog X.w) A R Y n s₀ (.compLoop (.GeneratorExp elt [⟨tg, iter, ifs, 0⟩] scope pos) 0 (.ref it) .none X.env) ((model X.prog X.w).den (.compLoop (.GeneratorExp elt [⟨tg, iter, ifs, 0⟩] scope pos) 0 (.ref it) .none X.env)) [] s := by
  intro m
  induction m using Nat.strongRecOn with
  | ind m ih =>
    intro i n ys H s s₀ w hn hG st nf
    obtain ⟨pins, hpf, I, back⟩ := gc.opn _ _ _ _ _ hG
    rw [List.append_nil] at I
    have stat : ∀ {σ' : L2.St} {H' : Hp} {s' : Shared}, Inv X pins σ' H' s' → (∀ b ∈ fp, H' b = none) → ∀ b ∈ fp, FpOk X pins H' b := fun {σ' H' s'} I' hn b hb =>
      ⟨hn b hb, (I'.ok.exf b (hex b hb).1).1, I'.ok.exfs b (hex b hb).1, .inl (hex b hb).1, fun x c e => (I'.ok.exf b (hex b hb).1).2 x c e, fun p hp => (List.mem_append.mp hp).elim (fun z => (hex b hb).2 p z) fun z => hpf p z b hb⟩
    have bad : ∀ {α : Type} {t : Sem α} {Q : α → Shared → Prop} {E : Value → Shared → Prop} {s : Shared}, wpAny (model X.prog X.w) X.A t Q X.xe s → wpAny (model X.prog X.w) X.A t Q E s := fun h => wpAny_mono h (fun _ _ q => q) fun _ _ z => by rw [hx] at z; exact z.elim
    show Seg _ A _ _ _ s₀ _ ((compTurn (.GeneratorExp elt [⟨tg, iter, ifs, 0⟩] scope pos) 0 (.ref it) .none X.env).onRaise (leaving X.env)) [] s
    rw [compTurn_genX _ _ _ _ _ _ _ _ _ hco hsc, Sem.onRaise_eq_wrap]
    refine seg_bind_wrap (wpAny_standAt ?_)
    rcases turn i m ys H w with ⟨stop, qq⟩ | ⟨go, Nx, hNx, step⟩
    · have td := T.done X rfl rfl rfl hc i pins s _ H (fun _ _ => False) I (stat I nf) st stop
      refine seg_bind_wrap ?_
      rw [hA]
      refine thnF td fun r s6 ⟨hr, I6⟩ => ?_
      subst hr
      exact seg_end (.ok .next) (hR n ys H s6 s₀ (back [] _ _ _ (by rw [List.append_nil]; exact I6)) qq hn)
    · have ti := T.item X rfl rfl rfl hc i pins s _ H (fun _ _ => False) I (stat I nf) st go
      refine seg_bind_wrap ?_
      rw [hA]
      refine thnF ti fun r s6 ⟨u, hr, h6⟩ => ?_
      subst hr
      refine seg_bind_wrap ?_
      rw [hA]
      refine thnF h6 fun _ s7 ⟨x, H7, I7, r7, y7, st7, n7⟩ => ?_
      have I7' := I7.pinned (stat I7 n7) (T.obj _ _ st7)
      refine seg_bind_wrap ?_
      rw [hA]
      refine bad (thn (pg.run _ s7 _ H7 x u _ I7' r7 (step x H7 y7)) fun _ s8 ⟨σ8, H8, I8, hw8, q8⟩ => ?_)
      refine seg_bind_wrap ?_
      rw [hA]
      refine bad (thn (pt.run _ s8 σ8 H8 _ I8 q8) fun b s9 ⟨H9, I9, q9⟩ => ?_)
      -- the turn's end
      have fin : ∀ {n' : Nat} {ys' : List V} {s₀' s' : Shared} {H' : Hp}, GG (pinsAt fp s7.heap) ys' σ8 H' s' → n' + ys'.length = sizeLine → Nx ys' H' →
          Seg (model X.prog X.w) A R Y n' s₀' (.compLoop (.GeneratorExp elt [⟨tg, iter, ifs, 0⟩] scope pos) 0 (.ref it) .none X.env) ((model X.prog X.w).den (.compLoop (.GeneratorExp elt [⟨tg, iter, ifs, 0⟩] scope pos) 0 (.ref it) .none X.env)) [] s' := fun {n' ys' s₀' s' H'} hG' hn' nx => by
        obtain ⟨m', hm, w'⟩ := hNx ys' H' nx
        obtain ⟨pins2, hpf2, I', back2⟩ := gc.opn _ _ _ _ _ hG'
        have pin' : ∀ b ∈ fp, ∀ o, s7.heap.get? b = some o → s'.heap.get? b = some o ∧ H' b = none := fun b hb o e =>
          let z := I'.pin (b, o) (List.mem_append_right _ (List.mem_append_right _ (mem_pinsAt hb e)))
          ⟨z.1, z.2.1⟩
        have hl : σw.length = σ8.length := by rw [← hw8, wipe_length]
        refine ih m' hm (i + 1) n' ys' H' s' s₀' w' hn' (back2 [] _ _ _ ?_) (T.keep _ _ _ st7 fun b hb o e => (pin' b hb o e).1) fun b hb => ?_
        · rw [List.append_nil]
          exact (I'.unpinned (pins := pins2)).weak hl fun j v e => by
            rw [← hw8] at e
            exact (wipe_some e).1
        · obtain ⟨o, e, _⟩ := T.obj _ _ st7 b hb
          exact (pin' b hb o e).2
      cases b with
      | false =>
        simp only [Bool.false_eq_true, if_false] at q9 ⊢
        exact seg_again rfl (fin (back _ _ _ _ I9) hn q9)
      | true =>
        simp only [if_true] at q9 ⊢
        rw [Sem.bind_eq_wrap', Sem.bind_eq_wrap', Sem.wrap_wrap, Sem.wrap_wrap]
        refine seg_wrap ?_
        rw [hA]
        refine bad (thn (pe.run _ s9 σ8 H9 _ I9 q9) fun z s10 ⟨yv, H10, I10, r10, hlt, nx⟩ => ?_)
        obtain ⟨n2, rfl⟩ : ∃ n2, n = n2 + 1 := ⟨n - 1, by omega⟩
        refine seg_at (seg_yield rfl rfl rfl (gc.out (pinsAt fp s7.heap) ys σ8 H10 s10 _ _ yv z _ (back _ _ _ _ I10) r10 (by omega) (fun p hp => ?_) fun s' hG' => ?_))
        · unfold pinsAt at hp
          obtain ⟨b, hb, e⟩ := List.mem_filterMap.mp hp
          cases e2 : s7.heap.get? b with
          | none => rw [e2] at e; cases e
          | some o => rw [e2] at e; cases e; exact hb
        · exact seg_again rfl (fin hG' (by rw [List.length_append, List.length_singleton]; omega) nx)
theorem seg_gstart {n : Nat} {s₀ s : Shared} (T : Turn X.prog X.w X.K tg J fp it tn) (st : tn 0 s.heap)
    (loop : Seg (model X.prog X.w) A R Y n s₀ (.compLoop (.GeneratorExp elt [⟨tg, iter, ifs, 0⟩] scope pos) 0 (.ref it) .none X.env) ((model X.prog X.w).den (.compLoop (.GeneratorExp elt [⟨tg, iter, ifs, 0⟩] scope pos) 0 (.ref it) .none X.env)) [] s) :
    Seg (model X.prog X.w) A R Y n s₀ (.compStart (.GeneratorExp elt [⟨tg, iter, ifs, 0⟩] scope pos) 0 (.ref it) .none X.env) ((model X.prog X.w).den (.compStart (.GeneratorExp elt [⟨tg, iter, ifs, 0⟩] scope pos) 0 (.ref it) .none X.env)) [] s := by
  show Seg _ A _ _ _ s₀ _ ((compStart (.GeneratorExp elt [⟨tg, iter, ifs, 0⟩] scope pos) 0 (.ref it) .none X.env).onRaise (leaving X.env)) [] s
  unfold compStart
  rw [Sem.onRaise_eq_wrap]
  show Seg _ A _ _ _ s₀ _ ((ask >>= _).wrap _ _ _ _) [] s
  refine seg_bind_wrap (wpAny_askSetting ?_)
  split
  · exact seg_again rfl loop
  · first
      | exact seg_bind_wrap (wpAny_rule (seg_bind_wrap (wpAny_standAt (seg_bind_wrap (T.self _ 0 s _ _ st (seg_again rfl loop))))))
      | (refine seg_bind_wrap (wpAny_rule ?_); show Seg _ A _ _ _ s₀ _ ((standAt iter.pos >>= _).wrap _ _ _ _) [] s; exact seg_bind_wrap (wpAny_standAt (seg_bind_wrap (T.self _ 0 s _ _ st (seg_again rfl loop)))))
end
end Wk

set_option Elab.async false
set_option linter.all false
set_option maxRecDepth 100000
set_option maxHeartbeats 8000000
/-! generator expressions: the making, the run -/
namespace Wk
open PySem PySem.Spec PyProof.Rows L2 GenW

theorem over_gx {A : Around} {elt tg iter : Expr} {ifs : List Expr} {scope : Scope} {pos : Pos} {it acc : Value} {env : PySem.Env} : A.over (.compLoop (.GeneratorExp elt [⟨tg, iter, ifs, 0⟩] scope pos) 0 it acc env) [] = A.deeper env := by
  first
    | rfl
    | (obtain ⟨hd, d, fr, gs, u⟩ := A; simp [Around.over, Around.deeper, marksOver, frameCount, unitsOf, envsOf, guardsOf, pushEnvs, pushGuards, Code.envs, Code.env?, Code.isFrame, Code.guards, Code.isGuard, Code.weight, Code.frames, Code.isCreation, Code.isCaller, Code.cUnits])
/-- the table at P has grown -/
def Grown (P : Addr) (H H' : Hp) : Prop := ∃ ps more : Array Value, H P = some (.tbl ps) ∧ H' = upd H P (.tbl (ps ++ more)) ∧ TriplesOk (ps ++ more).toList
/-- a generator's turns -/
def gxTurns (J : It) (g : TG) (tt : TT) (te : TE) (vs : List Nat) (σw : L2.St) (cont : List V → Hp → Prop) (H0 : Hp) : Prop :=
  ∃ W : Nat → Nat → List V → Hp → Prop, (∃ m, W 0 m [] H0) ∧ ∀ i m ys H, W i m ys H → (J.stop i H ∧ cont ys H) ∨ (J.go i H ∧ ∃ Nx : List V → Hp → Prop, (∀ ys' H', Nx ys' H' → ∃ m', m' < m ∧ W (i + 1) m' ys' H') ∧
    ∀ x H', J.yld i H x H' → g x σw H' fun σ2 H2 => wipe σ2 vs = σw ∧ tt σ2 H2 fun b H3 => if b = true then te σ2 H3 fun y H4 => ys.length < sizeLine ∧ Nx (ys ++ [y]) H4 else Nx ys H3)
section
variable {X : Cx} {pins : List (Addr × Obj)} {σ : L2.St} {H : Hp} {s : Shared} {elt tg iter : Expr} {ifs : List Expr} {scope : Scope} {pos : Pos} {own : List (Str × Nat)} {wi : TI} {c P : Addr}
/-- behind the making -/
structure GxAt (X : Cx) (pins : List (Addr × Obj)) (σ : L2.St) (elt tg iter : Expr) (ifs : List Expr) (scope : Scope) (pos : Pos) (J : It) (H3 : Hp) (sc s5 : Shared) (fp : List Addr) (it : Addr) (tn : Nat → Heap → Prop) (genv : PySem.Env) (a : Addr) (g : Nat) (go : Obj) : Prop where
  inv : Inv X pins σ H3 sc
  turn : Turn X.prog X.w X.K tg J fp it tn
  tn0 : tn 0 sc.heap
  fp : ∀ b ∈ fp, FpOk X pins H3 b ∧ b < sc.heap.objs.size
  env : ∃ code, genv = genEnv scope (cloFrom X.env.cells scope.names []) sc.heap.objs.size code builtinsNs X.env
  gen : s5.gens[g]? = some (.fresh (.compStart (.GeneratorExp elt [⟨tg, iter, ifs, 0⟩] scope pos) 0 (.ref it) .none genv))
  cls : go.cls = .type "generator"
  dat : ∃ nm qn, go.data = .fields #[.int g 0, nm, qn]
  slots : go.slots = #[]
  obj : s5.heap.get? a = some go
  av : a = sc.heap.objs.size + 1
  sz : s5.heap.objs.size = a + 1
  keep : ∀ b o, sc.heap.get? b = some o → s5.heap.get? b = some o
  ns : ∃ m, s5.heap.Ns sc.heap.objs.size m
  os : s5.os = sc.os
  bare : AllBare s5.gens
theorem gx_eval {Q' : Value → Shared → Prop} {R : It → Hp → Prop} (TB : GxR.TabB X.base X.mg c P) (hcode : X.env.code = .ref c) (ok : GenOk X.N X.env.scope scope own) (hroom : X.A.depth < recursionLimit)
    (hi : PI X tg iter wi) (hs : ∀ v, genFold iter X.env v = pure v) (I : Inv X pins σ H s) (h : wi σ H fun J H2 => GxR.TabG H2 P ∧ ∀ H3, Grown P H2 H3 → R J H3)
    (hQ : ∀ J H3 sc s5 fp it tn genv a g go, R J H3 → GxAt X pins σ elt tg iter ifs scope pos J H3 sc s5 fp it tn genv a g go → Q' (.ref a) s5) :
    wpAny (model X.prog X.w) X.A (eval (.GeneratorExp elt [⟨tg, iter, ifs, 0⟩] scope pos) X.env) Q' X.xe s := by
  have hfree : ∀ y ∈ scope.names, y.2 = .free → ∃ c, X.env.cells.lookup y.1 = some c := fun y hy e => by
    rcases ok.blk.free y hy e with k | k
    · exact I.ok.has _ (.inl k)
    · exact I.ok.has _ (.inr k)
  refine wpAny_GeneratorExp_make ok.co (closure_ok hfree) ok.cell ok.dot ok.blk.kind hroom ?_ hs
  refine thn (hi.run pins s σ H _ I h) fun xv s1 hx => thn hx fun itv s2 h2 => ?_
  obtain ⟨it, fp, tn, J, H2, e, I2, T, st2, f2, ⟨ps, hP, ht⟩, q⟩ := h2
  subst e
  refine ⟨I2.nolimit, ?_⟩
  have hPs : s2.heap.get? P = some { cls := .none, data := .fields ps } := I2.hok P _ hP
  have hPlt : P < s2.heap.objs.size := Heap.lt_size hPs
  have cd : PySem.W.CodeHd s2.heap c P := TB.code.keeps fun b u e => I2.bk b u e
  have szf : ∀ b ∈ fp, b < s2.heap.objs.size := fun b hb => by
    obtain ⟨o, e, _⟩ := T.obj _ _ st2 b hb
    exact Heap.lt_size e
  have cont : ∀ (code : Value) (h3 : Heap) (tk : Nat) (more : Array Value), Heap.ExtBut P s2.heap h3 → s2.heap.objs.size ≤ h3.objs.size → h3.get? P = some { cls := .none, data := .fields (ps ++ more) } → TriplesOk (ps ++ more).toList →
      wpAny (model X.prog X.w) X.A (builtinsFor X.env.globals X.env.builtins) (fun bi s₄ =>
        ∀ h', h'.Ns s₄.heap.objs.size (fun y => if y = ".0" then some (.ref it) else none) → Heap.SameBut s₄.heap.objs.size (s₄.heap.push { cls := .type "frame", data := .dict #[] }) h' →
          Q' (.ref h'.objs.size) { s₄ with
            gens := s₄.gens.push (.fresh (.compStart (.GeneratorExp elt [⟨tg, iter, ifs, 0⟩] scope pos) 0 (.ref it) .none (genEnv scope (cloFrom X.env.cells scope.names []) s₄.heap.objs.size code bi X.env))),
            toks := s₄.toks + 1 + 1 + 1,
            heap := h'.push { cls := .type "generator", data := .fields #[.int s₄.gens.size 0, .str "<genexpr>" (s₄.toks + 1), .str (X.env.qual ++ "<genexpr>") (s₄.toks + 1 + 1)] } }) X.xe { s2 with heap := h3, toks := tk } := by
    intro code h3 tk more hx hsz hP3 ht3
    obtain ⟨bm, ob, e1, e2, e3, e4, e5, e6, e7, e8⟩ := TB.bm
    have keep3 : ∀ b u, b ≠ P → s2.heap.get? b = some u → h3.get? b = some u := fun b u hb e => hx b u hb e
    refine wpAny_builtinsFor (m := X.mg) (by rw [I2.ok.glob]; exact (I2.mod.glob.keeps I2.bk).extBut hx TB.gP) e1 e2 (keep3 _ _ e4 (I2.bk _ _ e5)) e6 e7 e8 ?_
    have J3 : Inv X pins σ (upd H2 P (.tbl (ps ++ more))) { s2 with heap := h3, toks := tk } :=
      GxR.inv_tab (g' := s2.gens) (d' := s2.drawn) (t' := tk) I2 hP keep3 hP3 I2.bare
    have nP : ∀ b ∈ fp, b ≠ P := fun b hb z => by
      have := (f2 b hb).1
      rw [z, hP] at this
      cases this
    intro h' hn' hsb
    have sz' : h'.objs.size = h3.objs.size + 1 := by
      have := hsb.1
      rw [Heap.size_push] at this
      exact this
    have kp' : ∀ b o, h3.get? b = some o → h'.get? b = some o := fun b o e => hsb.extBut b o (Nat.ne_of_lt (Heap.lt_size e)) (Heap.get?_push_of_some _ e)
    refine hQ J (upd H2 P (.tbl (ps ++ more))) { s2 with heap := h3, toks := tk } _ fp it tn _ _ s2.gens.size _ (q _ ⟨ps, more, hP, rfl, ht3⟩) ⟨J3, T, T.keep _ _ _ st2 fun b hb o e => keep3 b o (nP b hb) e, fun b hb => ⟨⟨?_, (f2 b hb).2⟩, Nat.lt_of_lt_of_le (szf b hb) hsz⟩,
      ⟨code, rfl⟩, Array.getElem?_push_size .., rfl, ⟨_, _, rfl⟩, rfl, Heap.get?_push_size _ rfl, sz', ?_, fun b o e => Heap.get?_push_of_some _ (kp' b o e), ⟨_, hn'.push _⟩, rfl, I2.bare.push rfl⟩
    · rw [upd_ne (nP b hb)]
      exact (f2 b hb).1
    · show (h'.push _).objs.size = _
      rw [Heap.size_push]
  cases hf : codeAmong pos ps.toList with
  | none =>
    refine wpAny_genexprCodeX hcode (cd.code hPs ht) (cd.tab hPs) hf fun c' h' tk hx hge hlt hco' _ htab' _ => ?_
    obtain ⟨o1, vs, f1, tf, fl, tg, inF, tx, tt, op, _, _, _, _, _, _, _, _, _, htr, _⟩ := hco'
    exact cont _ h' tk _ hx (Nat.le_trans hge (Nat.le_of_lt hlt)) htab'.2 htr
  | some cv =>
    refine wpAny_genexprCode_hit hcode (cd.code hPs ht) hf ?_
    exact cont cv s2.heap s2.toks #[] (Heap.ExtBut.refl _ _) (Nat.le_refl _) (by simpa using hPs) (by simpa using ht)
end
end Wk
namespace Wk
open PySem PySem.Spec PyProof.Rows L2 GenW
/-- the context of the run of a made generator -/
abbrev gxX (X : Cx) (sc : Shared) (H3 : Hp) (genv : PySem.Env) (fp : List Addr) (A : Around) (a : Addr) (go : Obj) : Cx := genX X sc H3 genv fp (A.deeper genv) [(a, go)]
section
variable {X : Cx} {pins : List (Addr × Obj)} {σ : L2.St} {H3 : Hp} {sc s5 s2 : Shared} {elt tg iter : Expr} {ifs : List Expr} {scope : Scope} {pos : Pos} {own : List (Str × Nat)} {c P : Addr} {J : It} {fp : List Addr} {it : Addr} {tn : Nat → Heap → Prop} {genv : PySem.Env} {a : Addr} {g : Nat} {go : Obj} {A : Around} {E : XK}
theorem GxAt.locals (G : GxAt X pins σ elt tg iter ifs scope pos J H3 sc s5 fp it tn genv a g go) : genv.locals = sc.heap.objs.size := by
  obtain ⟨code, rfl⟩ := G.env; rfl
theorem GxAt.scp (G : GxAt X pins σ elt tg iter ifs scope pos J H3 sc s5 fp it tn genv a g go) : genv.scope = scope := by
  obtain ⟨code, rfl⟩ := G.env; rfl
theorem GxAt.isGen (G : GxAt X pins σ elt tg iter ifs scope pos J H3 sc s5 fp it tn genv a g go) {h : Heap} (e : h.get? a = some go) : h.IsGen a g := by
  obtain ⟨nm, qn, d⟩ := G.dat
  exact ⟨go, nm, qn, e, G.cls, d, G.slots⟩
theorem GxAt.noCell (G : GxAt X pins σ elt tg iter ifs scope pos J H3 sc s5 fp it tn genv a g go) (v : Option Value) : go.data ≠ .cell v := by
  obtain ⟨nm, qn, d⟩ := G.dat
  rw [d]; exact fun z => by cases z
/-- the run's start -/
theorem GxAt.start {pins1 : List (Addr × Obj)} (G : GxAt X pins σ elt tg iter ifs scope pos J H3 sc s5 fp it tn genv a g go) (ok : GenOk X.N X.env.scope scope own) (hN : X.N.Nodup) (hh : A.handled = none) (hfr : A.frames = some X.stack) (kp : ∀ b o, s5.heap.get? b = some o → s2.heap.get? b = some o) (os : s2.os = sc.os) (bare : AllBare s2.gens)
    (hp : ∀ p ∈ pins1, s2.heap.get? p.1 = some p.2 ∧ sc.heap.objs.size < p.1 ∧ ∀ v, p.2.data ≠ .cell v) : Inv (gxX X sc H3 genv fp A a go) pins1 (wipe σ (own.map (·.2))) H3 s2 := by
  obtain ⟨code, e⟩ := G.env
  obtain ⟨m, hn⟩ := G.ns
  have hf : (A.deeper genv).frames = some (genv :: X.stack) := Around.frames_deeper hfr
  have hpn : ∀ p ∈ [(a, go)] ++ pins1, s2.heap.get? p.1 = some p.2 ∧ sc.heap.objs.size < p.1 ∧ ∀ v, p.2.data ≠ .cell v := fun p q => by
    rcases List.mem_append.mp q with q | q
    · rw [List.mem_singleton.mp q]
      exact ⟨kp _ _ G.obj, by rw [G.av]; exact Nat.lt_succ_self _, G.noCell⟩
    · exact hp p q
  have r := gen_start (Ag := A.deeper genv) (fp := fp) (code := code) (pn := [(a, go)]) (pins1 := pins1) (s1 := s2) G.inv ok hN G.fp (fun b o q => kp b o (G.keep b o q)) os bare ⟨m, hn.at' fun o q => kp _ o q⟩ hh (by rw [← e]; exact hf) hpn
  rw [← e] at r
  exact r
theorem gcons_lst {S : Addr} (G : GxAt X pins σ elt tg iter ifs scope pos J H3 sc s5 fp it tn genv a g go) (hS : s5.heap.objs.size ≤ S) (apart : Apart (gxX X sc H3 genv fp A a go) S) :
    GCons (gxX X sc H3 genv fp A a go) fp (YItem sc S a g) (GI (gxX X sc H3 genv fp A a go) S) where
  opn := fun ip ys σ' H s ⟨acc, cc, r, I⟩ => ⟨[(S, lstObj acc cc)], fun p hp b hb => by
    rw [List.mem_singleton.mp hp]
    have h1 := (G.fp b hb).2
    have h2 := G.sz
    have h3 := G.av
    show S ≠ b
    intro z
    rw [z] at hS
    have : sc.heap.objs.size < b := Nat.lt_of_lt_of_le (by rw [h2, h3]; exact Nat.lt_succ_of_lt (Nat.lt_succ_self _)) hS
    exact absurd (Nat.lt_trans this h1) (Nat.lt_irrefl _), I, fun ip' σ'' H' s' I' => ⟨acc, cc, r, I'⟩⟩
  out := fun ip ys σ' H s n s₀ x v kap hG rv hn hip hk => by
    obtain ⟨q1, q2, q3, acc, cc, ra, ea⟩ := hG.at
    obtain ⟨acc', cc', ra', I⟩ := id hG
    have hsz : acc.size = ys.length := by
      have e1 := ra.length
      have e2 : acc.toList.length = acc.size := by simp
      omega
    have ltS : a < S := Nat.lt_of_lt_of_le (by rw [G.sz]; exact Nat.lt_succ_self _) hS
    have hpn : ∀ p ∈ (gxX X sc H3 genv fp A a go).pn, p.1 ≠ S := fun p hp => by
      have hp : p ∈ [(a, go)] := hp
      rw [List.mem_singleton.mp hp]
      exact Nat.ne_of_lt ltS
    have hip2 : ∀ p ∈ ip, p.1 ≠ S := fun p hp => by
      have h1 := (G.fp p.1 (hip p hp)).2
      have h3 := G.av
      exact Nat.ne_of_lt (Nat.lt_trans h1 (Nat.lt_of_le_of_lt (by rw [h3]; exact Nat.le_succ _) ltS))
    have eg : s.heap.get? a = some go := (I.pin (a, go) (List.mem_append_left _ (List.mem_singleton.mpr rfl))).1
    exact ⟨I.os, I.bare, I.nolimit, G.isGen eg, ⟨acc, cc, ea, by rw [hsz]; exact hn⟩, fun s' z => hk s' (hG.woken hpn hip2 apart rv z)⟩
/-- a generator, ready for a list -/
theorem gx_lst {k : Nat} {gg : TG} {tt : TT} {te : TE} {cont : List V → Hp → Prop} (G : GxAt X pins σ elt tg iter ifs scope pos J H3 sc s5 fp it tn genv a g go) (ok : GenOk X.N X.env.scope scope own) (hN : X.N.Nodup) (hc : X.calm = true)
    (hg : ∀ A, Room k A → PG (gxX X sc H3 genv fp A a go) tg gg) (ht : ∀ A, Room k A → PTs (gxX X sc H3 genv fp A a go) ifs tt) (he : ∀ A, Room k A → PE (gxX X sc H3 genv fp A a go) elt te)
    (tr : gxTurns J gg tt te (own.map (·.2)) (wipe σ (own.map (·.2))) cont H3) : GMade X.prog X.w k X.stack H3 sc fp cont E (.ref a) s5 := by
  have lt2 : sc.heap.objs.size < s5.heap.objs.size := by rw [G.sz, G.av]; exact Nat.lt_succ_of_lt (Nat.lt_succ_self _)
  refine ⟨a, g, _, rfl, by rw [G.av]; exact Nat.le_succ _, by rw [G.sz]; exact Nat.lt_succ_self _, G.isGen G.obj, G.gen, G.os, G.bare, G.inv.nolimit.keeps G.keep, G.keep, ?_⟩
  intro A S s2 hr hfr hS hk hSo hos hb
  obtain ⟨cS, heS⟩ := hSo
  have ltS : sc.heap.objs.size < S := Nat.lt_of_lt_of_le lt2 hS
  have I2 := G.start (pins1 := [(S, lstObj #[] cS)]) ok hN hr.hd hfr hk hos hb fun p hp => by
    rw [List.mem_singleton.mp hp]
    exact ⟨heS, ltS, fun v z => by cases z⟩
  have hcell : ∀ x c, genv.cells.lookup x = some c → c ≠ S := fun x cc e z => by
    obtain ⟨code, e1⟩ := G.env
    have hm : (x, cc) ∈ cloFrom X.env.cells scope.names [] := by
      have : genv.cells = cloFrom X.env.cells scope.names [] := by rw [e1]; rfl
      rw [this] at e
      exact PySem.mem_of_lookup e
    rcases cloFrom_mem hm with hm | ⟨h1, h2⟩
    · cases hm
    · rcases ok.blk.free _ h1 rfl with k1 | k1
      · obtain ⟨c2, e2⟩ := G.inv.ok.has _ (.inl k1)
        obtain ⟨w, q⟩ := G.inv.cell _ _ e2
        have e3 : cc = c2 := by rw [h2, e2]; rfl
        rw [← e3, z] at q
        exact absurd (Nat.lt_trans ltS q.lt) (Nat.lt_irrefl _)
      · obtain ⟨c2, e2⟩ := G.inv.ok.has _ (.inr k1)
        obtain ⟨w, q⟩ := G.inv.cell _ _ e2
        have e3 : cc = c2 := by rw [h2, e2]; rfl
        rw [← e3, z] at q
        exact absurd (Nat.lt_trans ltS q.lt) (Nat.lt_irrefl _)
  have apart : Apart (gxX X sc H3 genv fp A a go) S := ⟨Nat.le_of_lt ltS, by show S ≠ genv.locals; rw [G.locals]; exact Nat.ne_of_gt ltS, hcell⟩
  obtain ⟨W, ⟨m0, w0⟩, turn⟩ := tr
  have T : Turn (gxX X sc H3 genv fp A a go).prog (gxX X sc H3 genv fp A a go).w (gxX X sc H3 genv fp A a go).K tg J fp it tn := G.turn
  have tn2 : tn 0 s2.heap := G.turn.keep _ _ _ G.tn0 fun b hb o e => hk b o (G.keep b o e)
  refine seg_gstart (X := gxX X sc H3 genv fp A a go) T tn2 ?_
  refine seg_gloop (X := gxX X sc H3 genv fp A a go) (vs := own.map (·.2)) (gcons_lst G hS apart) over_gx rfl hc (fun b hb => ⟨hb, fun p hp => ?_⟩) ok.co G.scp T (hg A hr) (ht A hr) (he A hr) W turn (fun n ys H s s₀ hG q hn => ?_) m0 0 sizeLine [] H3 s2 s2 w0 (Nat.add_zero _) ⟨#[], cS, .nil, I2⟩ tn2 fun b hb => (G.fp b hb).1.1
  · have hp : p ∈ [(a, go)] := hp
    rw [List.mem_singleton.mp hp]
    show a ≠ b
    have := (G.fp b hb).2
    rw [G.av]
    exact Nat.ne_of_gt (Nat.lt_succ_of_lt this)
  · obtain ⟨q1, q2, q3, acc, cc, ra, ea⟩ := hG.at
    obtain ⟨acc', cc', ra', I⟩ := id hG
    exact .inl ⟨.inr rfl, H, ys, acc, cc, I.os, I.bare, I.base, I.hok, q1, ea, ra, by omega, q⟩
end
end Wk

namespace Wk
open PySem PySem.Spec PyProof.Rows L2 GenW
/-- the parts of a generator expression -/
structure GxP (X : Cx) (G : Gh) (k : Nat) (elt tg iter : Expr) (ifs : List Expr) (scope : Scope) (own : List (Str × Nat)) (p : Pt) (fc : Sv → R (Bool × Sv)) (fe : Sv → R (D × Sv)) : Prop where
  ok : GenOk X.N X.env.scope scope own
  hs : ∀ i ∈ p.slots, i ∈ own.map (·.2)
  it : ∀ v, genFold iter X.env v = pure v
  tab : ∃ c P, GxR.TabB X.base X.mg c P ∧ X.env.code = .ref c ∧ P ∈ G.T
  body : ∀ (sc : Shared) (H3 : Hp) (genv : PySem.Env) (fp : List Addr) (A : Around) (a : Addr) (go : Obj), Room k A → genv.scope = scope →
    PG (gxX X sc H3 genv fp A a go) tg (rdG G p) ∧ PTs (gxX X sc H3 genv fp A a go) ifs (nT G fc) ∧ PE (gxX X sc H3 genv fp A a go) elt (nD G fe)
/-- a generator's end, and the slots -/
def gxR (p : Pt) (vs is : List Nat) (fc : Sv → R (Bool × Sv)) (fe : Sv → R (D × Sv)) (r : List D × Sv) : R (List D × Sv) := (loopC p fc fe vs r.1 (wipeS (lockS r.2 is) vs)).nox >>= fun q =>
  guardR (decide (q.1.length ≤ lineN)) (.ok (q.1, unlock (backS q.2 (lockS r.2 is) vs) r.2 is))
/-- what a generator will hand out -/
def rdX (X : Cx) (G : Gh) (f : Sv → R (List D × Sv)) : TGen := fun σ H cont => ∃ ρ, Rp G H σ ρ ∧ Out3 X G σ ρ H (f ρ) fun r => ∀ ys H', Stp G σ ρ H r.2 H' → DnAll G.K H' ys r.1 → cont ys H'
section
variable {X : Cx} {G : Gh} {k : Nat} {elt tg iter : Expr} {ifs : List Expr} {scope : Scope} {own : List (Str × Nat)} {pos : Pos} {p : Pt} {is : List Nat} {f : Sv → R (List D × Sv)} {fc : Sv → R (Bool × Sv)} {fe : Sv → R (D × Sv)} {σ : L2.St} {ρ ρe ρ1 : Sv} {H H1 H2 H3 : Hp} {J : It} {vs : List Nat} {cont : List V → Hp → Prop}
theorem Grown.ext {W : Addr → Prop} {P : Addr} (h : Grown P H2 H3) : Ext W H2 H3 := by
  obtain ⟨ps, more, h1, rfl, h3⟩ := h
  have ne : ∀ b o, H2 b = some o → (∀ ps, o ≠ .tbl ps) → b ≠ P := fun b o e t z => by
    rw [z, h1] at e; cases e; exact t _ rfl
  refine ⟨fun b o e w t => by rw [upd_ne (ne b o e t)]; exact e, fun b qs e => ?_, ⟨fun b xs e => by rw [upd_ne (ne b _ e fun ps z => by cases z)]; exact e, fun b o u n e => by rw [upd_ne (ne b _ e fun ps z => by cases z)]; exact e⟩, fun b q => ?_⟩
  · by_cases z : b = P
    · subst z
      rw [h1] at e; cases e
      exact ⟨more, upd_same⟩
    · exact ⟨#[], by rw [upd_ne z, e]; simp⟩
  · by_cases z : b = P
    · rw [z, upd_same]; exact fun y => by cases y
    · rw [upd_ne z]; exact q
theorem Grown.stp {P : Addr} (h : Grown P H2 H3) (rp : Rp G H2 σ ρ) : Stp G σ ρ H2 ρ H3 := by
  have e : Ext (fun _ => False) H2 H3 := h.ext
  refine ⟨⟨rp.len, fun i s q => ?_, rp.sep, rp.ext.trans e fun c z => z.elim, fun Q hQ => ?_⟩, h.ext, fun _ z => z, .refl _⟩
  · obtain ⟨v, h1, h2⟩ := rp.slot i s q
    exact ⟨v, h1, h2.keep e.still fun _ a o ev ea ht => e.keep a o ea (fun z => z) ht⟩
  · obtain ⟨qs, q1, q2⟩ := rp.tabs Q hQ
    obtain ⟨ps, more, h1, rfl, h3⟩ := h
    by_cases z : Q = P
    · subst z
      exact ⟨_, upd_same, h3⟩
    · exact ⟨qs, by rw [upd_ne z]; exact q1, q2⟩
theorem ItOk.ext {K : PySem.W.Frag} {W : Addr → Prop} {xs : List D} (h : ItOk K J W H1 xs) (e : Ext W H1 H2) : ItOk K J W H2 xs :=
  ⟨fun i x H q ext => h.go i x H q (e.trans ext fun c z => .inl z), fun i H q ext => h.stop i H q (e.trans ext fun c z => .inl z)⟩
/-- a generator's turns, by the loop's function -/
theorem gx_turns {W : Addr → Prop} {xs ys : List D} {ρ0 : Sv} (hW : ∀ a, OA (wipe σ vs) ρ0 a → W a)
    (it : ItOk G.K J W H1 xs) (b0 : Blk G W (wipe σ vs) ρ0 H1 ρ0 H1)
    (ev : loopC p fc fe vs xs ρ0 = .ok (ys, ρe)) (hy : ys.length ≤ lineN) (hs : ∀ i ∈ p.slots, i ∈ vs)
    (fin : ∀ H2 accV, Blk G W (wipe σ vs) ρ0 H1 ρe H2 → DnAll G.K H2 accV ys → cont accV H2) : gxTurns J (rdG G p) (nT G fc) (nD G fe) vs (wipe σ vs) cont H1 := by
  let P : Nat → List V → Hp → Prop := fun i accV H => ∃ ρi acc rest, Blk G W (wipe σ vs) ρ0 H1 ρi H ∧ DnAll G.K H accV acc ∧ acc ++ rest = ys ∧ loopC p fc fe vs (xs.drop i) ρi = .ok (rest, ρe)
  refine ⟨fun i m accV H => m = xs.length - i ∧ i ≤ xs.length ∧ P i accV H, ⟨xs.length, by simp, Nat.zero_le _, ρ0, [], ys, b0, .nil, rfl, by rw [List.drop_zero]; exact ev⟩, ?_⟩
  rintro i m accV H ⟨rfl, hi, ρi, acc, rest, b, ha, hr, el⟩
  by_cases hlt : i < xs.length
  · refine .inr ?_
    obtain ⟨x, ex, ed⟩ := drop_cons hlt
    rw [ed] at el
    obtain ⟨ρ1, e1, el⟩ := R.bind_ok el
    obtain ⟨⟨c, ρ2⟩, e2, el⟩ := R.bind_ok el
    obtain ⟨hgo, hyl⟩ := it.go i x H ex b.ext
    refine ⟨hgo, P (i + 1), fun accV' H' p' => ⟨xs.length - (i + 1), by omega, rfl, hlt, p'⟩, fun v H' y => ?_⟩
    obtain ⟨sm, dv⟩ := hyl v H' y
    refine ⟨x, ρi, ρ1, b.rp.same sm, dv, e1, fun σ2 r2 of => ?_⟩
    refine ⟨(b.turn hW sm e1 of hs (Stp.refl r2).blk fun a z => .inl z).1, ρ1, (c, ρ2), r2, e2, fun H3 st => ?_⟩
    cases c with
    | false =>
      show P (i + 1) accV H3
      obtain ⟨hw, b2⟩ := b.turn hW sm e1 of hs st.blk fun a z => .inl z
      have e3 : loopC p fc fe vs (xs.drop (i + 1)) (wipeS ρ2 vs) = .ok (rest, ρe) := el
      exact ⟨_, acc, rest, b2, ha.still (Still.trans (.of_same sm) st.ext.still), hr, e3⟩
    | true =>
      show nD G fe σ2 H3 _
      have el : (fe ρ2 >>= fun r3 => loopC p fc fe vs (xs.drop (i + 1)) (wipeS r3.2 vs) >>= fun r4 => R.ok (r3.1 :: r4.1, r4.2)) = .ok (rest, ρe) := el
      obtain ⟨⟨d, ρ3⟩, e3, el⟩ := R.bind_ok el
      obtain ⟨⟨rest', ρe'⟩, e4, el⟩ := R.bind_ok el
      cases el
      refine ⟨ρ2, (d, ρ3), st.rp, e3, fun y H4 st2 dy => ?_⟩
      have st3 := st.trans st2
      obtain ⟨hw, b2⟩ := b.turn hW sm e1 of hs st3.blk fun a z => .inl z
      have hlen : accV.length < sizeLine := by
        have h1 := ha.length
        have h2 := congrArg List.length hr
        rw [List.length_append, List.length_cons] at h2
        have := lineN_le
        omega
      exact ⟨hlen, wipeS ρ3 vs, acc ++ [d], rest', b2, (ha.still (Still.trans (.of_same sm) st3.ext.still)).append (.cons dy .nil), by rw [← hr]; simp, e4⟩
  · have e : i = xs.length := by omega
    subst e
    rw [List.drop_length] at el
    cases el
    rw [List.append_nil] at hr
    subst hr
    exact .inl ⟨it.stop _ H (Nat.le_refl _) b.ext, fin H accV b ha⟩
/-- the reading of a generator, from its source's -/
theorem gx_read (h : GxP X G k elt tg iter ifs scope own p fc fe) {P : Addr} (hP : P ∈ G.T) (hrd : rdX X G (fun ρ => f ρ >>= fun r => gxR p (own.map (·.2)) is fc fe r) σ H cont) :
    rdI X G is f σ H fun J H2 => GxR.TabG H2 P ∧ ∀ H3, Grown P H2 H3 → gxTurns J (rdG G p) (nT G fc) (nD G fe) (own.map (·.2)) (wipe σ (own.map (·.2))) cont H3 := by
  obtain ⟨ρ, rp, o⟩ := hrd
  refine ⟨ρ, rp, (Out3.bind o).mono fun r _ q J H1 st hit => ⟨st.rp.tabs P hP, fun H3 gr => ?_⟩⟩
  cases ev : loopC p fc fe (own.map (·.2)) r.1 (wipeS (lockS r.2 is) (own.map (·.2))) with
  | bad => unfold gxR at q; rw [ev] at q; exact False.elim q
  | exc x ρ' => unfold gxR at q; rw [ev] at q; exact False.elim q
  | ok qq =>
    obtain ⟨ys, ρe⟩ := qq
    unfold gxR at q
    rw [ev] at q
    obtain ⟨g, q⟩ := Out3.guard q
    have hy : ys.length ≤ lineN := of_decide_eq_true g
    have st1 := gr.stp st.rp
    have rl := st1.rp.lock is
    refine gx_turns (W := fun a => OA (wipe σ (own.map (·.2))) (wipeS (lockS r.2 is) (own.map (·.2))) a) (fun a z => z) ((hit _ fun c z => .inl z.wipe).ext gr.ext) ⟨rl.wipe _, .refl, fun _ z => z, .refl _⟩ ev hy h.hs fun H2 accV b ha => ?_
    have c1 := comp_end rl b fun a w => .inl w
    have c2 := unlock_stp st1.rp c1 fun a w => .inl w.wipe
    have st2 : Stp G σ r.2 H3 _ H2 := (c2.mono fun a w => .inl w.wipe.lock).stp
    exact q accV H2 ((st.trans st1).trans st2) ha
/-- the generator, ready for a list -/
theorem pgen_gx {E : XK} (hN : X.N.Nodup) (hc : X.calm = true) (hroom : X.A.depth < recursionLimit) (hi : PI X tg iter (rdI X G is f)) (h : GxP X G k elt tg iter ifs scope own p fc fe) :
    PGen X k (.GeneratorExp elt [⟨tg, iter, ifs, 0⟩] scope pos) (rdX X G fun ρ => f ρ >>= fun r => gxR p (own.map (·.2)) is fc fe r) E := by
  obtain ⟨c, P, TB, hcode, hP⟩ := h.tab
  refine ⟨fun pins s σ H cont I hq => ?_⟩
  refine gx_eval TB hcode h.ok hroom hi h.it I (gx_read h hP hq) fun J H3 sc s5 fp it tn genv a g go tr GA => ?_
  refine ⟨H3, sc, fp, GA.inv, fun b hb => ?_, gx_lst GA h.ok hN hc (fun A hr => (h.body sc H3 genv fp A a go hr GA.scp).1) (fun A hr => (h.body sc H3 genv fp A a go hr GA.scp).2.1) (fun A hr => (h.body sc H3 genv fp A a go hr GA.scp).2.2) tr⟩
  obtain ⟨f0, f1, f2, f3, f4, f5⟩ := (GA.fp b hb).1
  exact ⟨f3, f1, f4, f5⟩
end
end Wk

set_option Elab.async false
set_option linter.all false
set_option maxRecDepth 100000
set_option maxHeartbeats 8000000
/-! generator expressions: tuple(..), sorted(..) -/
namespace Wk
open PySem PySem.Spec PyProof.Rows L2 GenW

theorem Room.in2 {k : Nat} {A : Around} (r : Room (k + 2) A) : Room k A.in1.in1 := Room.in1 (Room.in1 r)
/-- a generator's items as a list -/
theorem collect_gx {P : Program} {w : World} {outer : List PySem.Env} {H : Hp} {sc s : Shared} {ex : List Addr} {Q : List V → Hp → Prop} {EX : XK} {A : Around} {k : Nat} {u : Value} {Q' : List Value → Shared → Prop} {E : Value → Shared → Prop}
    (hr : Room (k + 2) A) (hfr : A.frames = some outer) (h : GMade P w k outer H sc ex Q EX u s)
    (hQ : ∀ (s' : Shared) (acc : Array Value) (H' : Hp) (ys : List V), Vals ys acc.toList → ys.length ≤ sizeLine → s'.os = sc.os → AllBare s'.gens → Un (frs outer) ex H H' sc.heap s'.heap → HOk P w H' s'.heap → Q ys H' → Q' acc.toList s')
    (hexc : ∀ e s' g, CX P w outer H sc EX e s' → NotStop (model P w) e s'.heap ∧ E e (s'.setGen g .finished)) :
    wpAny (model P w) A (collect u) Q' E s := by
  obtain ⟨a, g, c, rfl, ha1, ha2, hg, hgs, hos, hb, hl, hkp, wake⟩ := h
  have hSa : s.heap.objs.size ≠ a := Nat.ne_of_gt ha2
  have hcl : cStatics < s.heap.objs.size := let ⟨_, hn, _⟩ := hl; hn.lt
  have hSc : s.heap.objs.size ≠ cStatics := Nat.ne_of_gt hcl
  have gty : ∀ {h : Heap}, (∀ b o, s.heap.get? b = some o → h.get? b = some o) → h.IsGen a g := fun {h} q => hg.keeps q
  unfold collect
  refine wpAny_bind (wpAny_runValue (codeAny_builtin F.entry_proto_collect ?_))
  rw [Around.under_plainId F.plain_proto_collect _]
  show wpAny _ A.in1 (newList [] >>= fun l => again (.builtin "list.__iadd__" ⟨[l, .ref a], []⟩)) _ _ s
  refine wpAny_bind (wpAny_newObj_type ?_)
  refine wpAny_pure ⟨plainId_quiet F.plain_list_iadd _, codeAny_builtin F.entry_list_iadd ?_⟩
  rw [Around.under_plainId F.plain_list_iadd _]
  have k1 : ∀ b o, s.heap.get? b = some o → (s.heap.push { cls := .type "list", data := .seq ([] : List Value).toArray }).get? b = some o := fun b o e => Heap.get?_push_of_some _ e
  show wpAny _ A.in1 (Builtin.List.listExtendWith (.ref s.heap.objs.size) (.ref a) (.ref s.heap.objs.size)) _ _ _
  unfold Builtin.List.listExtendWith
  refine wpAny_bind (wpAny_typeOf (Heap.IsGen.typeIs (s := { s with heap := _ }) (gty k1)) ?_)
  have h1 : Builtin.List.listSameRef (.ref s.heap.objs.size) (.ref a) = false := by simp [Builtin.List.listSameRef, hSa]
  have h2 : (Value.type "generator" == Value.type "list") = false := by decide
  have h3 : (Value.type "generator" == Value.type "tuple") = false := by decide
  simp only [h1, h2, h3, Bool.or_false, Bool.false_eq_true, if_false]
  refine wpAny_bind (wpAny_pyIter_gen (s := { s with heap := _ }) (gty k1) ?_)
  refine wpAny_bind (wpAny_holding ?_)
  unfold Builtin.List.listLengthHint
  refine wpAny_bind (wpAny_specialOf (Heap.IsGen.typeIs (s := { s with heap := _ }) (gty k1)) F.gen_no_len ?_)
  show wpAny _ A.in1 (specialOf (Value.ref a) (Str.ofString "__length_hint__") >>= _) _ _ _
  refine wpAny_bind (wpAny_specialOf (Heap.IsGen.typeIs (s := { s with heap := _ }) (gty k1)) F.gen_no_hint ?_)
  refine wpAny_pure ?_
  show wpAny _ A.in1 (rule "list.extend.makes-room" >>= fun _ => Builtin.List.listTouch (.ref s.heap.objs.size) >>= fun _ =>
    again (.builtin "list.extend.loop" ⟨[.ref s.heap.objs.size, .ref a, .ref s.heap.objs.size], []⟩)) _ _ _
  refine wpAny_bind (wpAny_rule ?_)
  have hS1 : (s.heap.push { cls := .type "list", data := .seq ([] : List Value).toArray }).get? s.heap.objs.size = some { cls := .type "list", data := .seq ([] : List Value).toArray } := Heap.get?_push_size _ rfl
  refine wpAny_bind ?_
  show wpAny _ A.in1 (updateSeq s.heap.objs.size (·.push .none) >>= fun _ => updateSeq s.heap.objs.size (·.pop)) _ _ _
  refine wpAny_bind (wpAny_updateSeq hS1 rfl ?_)
  have hS2 := Heap.get?_update_self (Obj.mapSeq (·.push Value.none)) hS1 rfl
  refine wpAny_updateSeq hS2 rfl ?_
  have hS3 := Heap.get?_update_self (Obj.mapSeq (·.pop)) hS2 rfl
  have up : ∀ (h : Heap) (f : Obj → Obj), (∀ b o, s.heap.get? b = some o → h.get? b = some o) → ∀ b o, s.heap.get? b = some o → (h.update s.heap.objs.size f).get? b = some o := fun h f q b o e =>
    (Heap.get?_update_other _ _ (Ne.symm (Nat.ne_of_lt (Heap.lt_size e)))).trans (q b o e)
  have k4 := up _ (Obj.mapSeq (·.pop)) (up _ (Obj.mapSeq (·.push Value.none)) k1)
  refine wpAny_pure ⟨plainId_quiet F.plain_extend_loop _, ?_⟩
  refine drain (P := P) (w := w) (outer := outer) (H := H) (sc := sc) (ex := ex) (Q := Q) (EX := EX) (A := A) (g := g) hr.hd hr.depth hSa hSc
    (fun s' acc c H' ys q1 q2 q3 q4 q5 q6 q7 q8 q9 => ?_) (fun e s' hc => hexc e s' g hc)
    sizeLine _ (gty k4) (hl.keeps k4) ⟨_, hgs, rfl, ?_⟩
  · show wpAny _ A (load s.heap.objs.size >>= _) _ _ s'
    refine wpAny_bind (wpAny_load q1 ?_)
    exact wpAny_pure (hQ s' acc H' ys q2 q3 q4 q5 q6 q7 q9)
  · exact wake _ _ _ (Room.in2 hr) hfr (Nat.le_refl _) k4 ⟨_, hS3⟩ hos (allBare_setGen (s := { s with heap := _ }) hb rfl)
/-- no exception leaves it -/
abbrev XK0 : XK := fun _ _ _ => False
theorem noCX {P : Program} {w : World} {outer : List PySem.Env} {H : Hp} {s s' : Shared} {e : Value} (h : CX P w outer H s XK0 e s') : False := by
  obtain ⟨a, B, H', cls, d, _, _, _, _, _, _, hW⟩ := h
  exact hW.2
section
variable {X : Cx} {G : Gh} {k : Nat} {e : Expr} {f : Sv → R (List D × Sv)} {pos : Pos} {nm : Str} {p : Pos}
/-- tuple(g) -/
theorem call_tuple_gx {outer : List PySem.Env} {H : Hp} {sc s : Shared} {ex : List Addr} {P : Program} {w : World} {Q : List V → Hp → Prop} {A : Around} {u : Value} {Q' : Value → Shared → Prop} {E : Value → Shared → Prop} (hr : Room (k + 4) A) (hfr : A.frames = some outer) (h : GMade P w k outer H sc ex Q XK0 u s)
    (hQ : ∀ (s' : Shared) (acc : Array Value) (H' : Hp) (ys : List V), Vals ys acc.toList → ys.length ≤ sizeLine → s'.os = sc.os → AllBare s'.gens → Un (frs outer) ex H H' sc.heap s'.heap → HOk P w H' s'.heap → Q ys H' → Q' (.ref s'.heap.objs.size) { s' with heap := s'.heap.push { cls := .type "tuple", data := .seq acc } }) :
    wpAny (model P w) A (call (.type "tuple") [u]) Q' E s := by
  obtain ⟨a, g, c, rfl, ha1, ha2, hg, r⟩ := id h
  refine callType_codes (Q₁ := fun obj s₁ => s₁.TypeIs obj "tuple" ∧ Q' obj s₁) F.called_tuple (F.typeCall_tuple_1 _) F.entry_object_init ?_ fun obj s₁ h₁ => ?_
  · refine codeAny_of_tree ?_
    show wpAny _ A.in1.in1 (do checkBuiltinCall "tuple.__new__" ⟨[.type "tuple", .ref a], []⟩; again (.builtin "tuple.__new__" ⟨[.type "tuple", .ref a], []⟩)) _ _ s
    refine wpAny_bind (wpAny_of_eq (F.newCall_tuple_1 _) (wpAny_pure ⟨plainId_quiet F.plain_tuple_new _, codeAny_builtin F.entry_tuple_new ?_⟩))
    rw [Around.under_plainId F.plain_tuple_new _]
    have hsub := sub_tuple_self
    have hinit := init_tuple_lookup
    have hmh := madeHere_tuple
    have hTI := hg.typeIs (s := s)
    wp_walk using wpAny_typeOf hTI, collect_gx (A := A.in1.in1) (Room.in2 hr) hfr h
    rotate_left
    · intro e s' g hc
      exact (noCX hc).elim
    intro s' acc H' ys q1 q2 q3 q4 q5 q6 q7
    show wpAny _ _ (Builtin.Tuple.tupleExact acc.toList.toArray >>= fun v => ret v) _ _ _
    unfold Builtin.Tuple.tupleExact
    refine wpAny_bind (wpAny_newObj_type ?_ (by show acc.toList.toArray.size ≤ sizeLine; simp only [Array.toArray_toList]; have := q1.length; simp at this; omega))
    refine wpAny_pure ?_
    have e : acc.toList.toArray = acc := by simp
    rw [e]
    exact ⟨⟨_, Heap.get?_push_size _ rfl, rfl⟩, hQ s' acc H' ys q1 q2 q3 q4 q5 q6 q7⟩
  · exact ⟨h₁.1, F.args_object_init_2 obj _, object_init_meets F.called_tuple.init.lookup F.called_tuple.made (by decide) P w A.in1 _ s₁ ⟨h₁.1, rfl, h₁.2⟩⟩
theorem starG {e : Expr} (h : notStar e = true) (env : PySem.Env) : starEach [e] env = (false, eval e env) :: starEach [] env := star_one h
/-- tuple(g) -/
theorem pv_tupX (hr : Room (k + 4) X.A) (hg : Gl X "tuple") (hm : X.mg "tuple" = none) (hs : notStar e = true) (h : PGen X k e (rdX X G f) XK0) :
    PE X (.Call (.Name "tuple" p) [e] [] pos) (rdV X G fun ρ => f ρ >>= fun r => .ok (.im (.tuple r.1), r.2)) := by
  refine ⟨fun pins s σ H Q I ⟨ρ, rp, o⟩ => ?_⟩
  refine wpAny_Call_Name_kw (ld_blt I hg hm boot_tuple ?_)
  refine PyProof.Rows.callWith_type1 ?_ (star_one hs) rfl
  rw [star_one hs]
  show wpAny _ _ (spliced ((false, eval e X.env) :: backTo pos (starEach [] X.env))) _ _ s
  have o := Out3.bind o
  refine Calls.spliced_cons (thn (h.run pins s σ H (fun ys H' => ∃ r : List D × Sv, Stp G σ ρ H r.2 H' ∧ DnAll G.K H' ys r.1 ∧ ∀ v H', Stp G σ ρ H r.2 H' → RvOk G σ ρ H r.2 H' v (.im (.tuple r.1)) → Q v H') I ⟨ρ, rp, o.mono fun r _ q ys H' st dn => ⟨r, st, dn, q⟩⟩) fun u s1 ⟨H1, sc, ex, I1, hex, hG⟩ => ?_)
  refine Calls.spliced_nil ?_
  refine call_tuple_gx hr I1.ok.frames hG fun s' acc H' ys q1 q2 q3 q4 q5 q6 ⟨r, st, dn, q⟩ => ?_
  have I2 : Inv X pins σ H' s' := I1.call' (ch := ex) q3 q5 q6 q4 hex
  have hn : H' s'.heap.objs.size = none := I2.hok.fresh (Nat.le_refl _)
  have I3 : Inv X pins σ (upd H' s'.heap.objs.size (.tup ys)) { s' with heap := s'.heap.push { cls := .type "tuple", data := .seq acc } } :=
    I2.laid (t' := s'.toks) (fun b o e => Heap.get?_push_of_some _ e) (Nat.le_refl _) (show ObjOk X.prog X.w _ _ _ (.tup ys) from ⟨q2, acc.toList, q1, by simpa using IsTup.new _ _⟩)
  have sm : Same H' (upd H' s'.heap.objs.size (.tup ys)) := same_new hn
  exact ⟨.ref s'.heap.objs.size, _, I3, rfl, q _ _ (st.trans (.of_same st.rp sm)) (.tup (.inl (.inl upd_same)) (dn.still (.of_same sm)))⟩
theorem sortL_ok {xs ys : List D} (h : sortC (.dat (.list xs)) = .ok ys) : ∃ is : List Int, xs = is.map PyData.int ∧ ys = xs.mergeSort leD := by
  unfold sortC at h
  obtain ⟨g, h⟩ := guardR_ok h
  cases h
  obtain ⟨is, rfl⟩ := all_ints g
  exact ⟨is, rfl, rfl⟩
/-- sorted(x), by how x is collected -/
theorem sorted_runX {pins : List (Addr × Obj)} {σ : L2.St} {s : Shared} {u : Value} {Qe : Value → Shared → Prop} {Kc : List Int → Hp → Prop}
    (hc : ∀ Q : List Value → Shared → Prop, (∀ (s' : Shared) (H' : Hp) (us : List Value) (ks : List Int), Inv X pins σ H' s' → ks.length ≤ sizeLine → IntsAre us ks → Kc ks H' → Q us s') → wpAny (model X.prog X.w) X.A.in1 (collect u) Q (fun e s' => Qe e s') s) :
    wpAny (model X.prog X.w) X.A (call (.builtin "sorted") [u]) (EP X pins σ fun z H2 => ∃ ks H', Kc ks H' ∧ Same H' H2 ∧ NewV X.K H' H2 z (.own (.lst ((ks.map PyData.int).mergeSort leD)))) Qe s := by
  refine Calls.call_function_entry PyProof.Rows.kind_sorted PyProof.Rows.plain_sorted PyProof.Rows.entry_sorted (PyProof.Rows.args_sorted1 _) ?_
  unfold Builtin.«sorted»
  refine wpAny_bind (m := checkCount "sorted" 1 1 _) (wpAny_pure ?_)
  refine wpAny_bind (hc _ fun s' H' us ks I1 hl hI hK => ?_)
  have hul : us.length ≤ sizeLine := by rw [hI.length]; exact hl
  obtain ⟨h', g', d', tk, os'⟩ := s'
  refine wpAny_bind (wpAny_newList ?_ hul)
  have hoL : (h'.push (seqObj "list" us.toArray 0)).get? h'.objs.size = some (seqObj "list" us.toArray 0) := Heap.get?_push_size _ rfl
  show wpAny _ _ _ _ _ ⟨h'.push (seqObj "list" us.toArray 0), g', d', tk, os'⟩
  refine wpAny_bind (wpAny_holding (wpAny_call_entry PyProof.Rows.slot_list_sort ⟨_, hoL, rfl⟩ PyProof.Rows.entry_list_sort
    (SrtO.list_sort_ord (s := ⟨h'.push (seqObj "list" us.toArray 0), g', d', tk, os'⟩) SrtO.swo_int hoL hul (fun h2 => SrtO.ints_sortable hI h2) fun out g1 g2 => ⟨_, rfl, ?_⟩) (PyProof.Rows.args_list_sort _)))
  obtain ⟨k1, k2, k3⟩ := SrtO.ints_out hI g1 g2
  obtain ⟨e', he'⟩ := PyProof.Rows.sortedHeap_at (vs := us) (out := out.toArray) hoL
  have hlen : ((out.map SrtO.iv).map V.int).length ≤ sizeLine := by
    rw [List.length_map, k2.length_eq]
    exact hl
  have hn := I1.hok.fresh (Nat.le_refl h'.objs.size)
  refine wpAny_pure ⟨_, rfl, .ref h'.objs.size, upd H' h'.objs.size (.lst ((out.map SrtO.iv).map V.int)), I1.laid (t' := tk) (fun b u e => ?_) (Nat.le_refl _)
    (show ObjOk X.prog X.w _ _ _ (.lst _) from ⟨hlen, out, e', vals_of_ints k1, he'⟩), rfl, ks, H', hK, same_new hn, _, rfl, hn, _, upd_same, ?_⟩
  · have hb : b < h'.objs.size := Heap.lt_size e
    rw [PyProof.Rows.sortedHeap_old (Nat.ne_of_lt hb) (by rw [size_push']; exact Nat.lt_succ_of_lt hb)]
    exact Heap.get?_push_of_some _ e
  · rw [sorted_uniq k2 k3]
    exact .ofInts _
theorem pv_srtX (hr : Room (k + 4) X.A) (hg : Gl X "sorted") (hm : X.mg "sorted" = none) (hs : notStar e = true) (hK : X.K = G.K) (h : PGen X k e (rdX X G f) XK0) :
    PE X (.Call (.Name "sorted" p) [e] [] pos) (rdV X G fun ρ => f ρ >>= fun r => sortC (.dat (.list r.1)) >>= fun ys => .ok (.own (.lst ys), r.2)) := by
  refine ⟨fun pins s σ H Q I ⟨ρ, rp, o⟩ => ?_⟩
  refine wpAny_Call_Name_kw (ld_blt I hg hm boot_sorted ?_)
  refine PyProof.Rows.callWith_builtin1 ?_ (star_one hs) rfl
  rw [star_one hs]
  show wpAny _ _ (spliced ((false, eval e X.env) :: backTo pos (starEach [] X.env))) _ _ s
  have o := Out3.bind o
  refine Calls.spliced_cons (thn (h.run pins s σ H (fun ys H' => ∃ (r : List D × Sv) (is : List Int), Stp G σ ρ H r.2 H' ∧ DnAll G.K H' ys r.1 ∧ r.1 = is.map PyData.int ∧ ∀ v H', Stp G σ ρ H r.2 H' → RvOk G σ ρ H r.2 H' v (.own (.lst (r.1.mergeSort leD))) → Q v H') I
    ⟨ρ, rp, o.mono fun r _ q ys H' st dn => ?_⟩) fun u s1 ⟨H1, sc, ex, I1, hex, hG⟩ => ?_)
  · obtain ⟨zs, e1, q⟩ := (Out3.bind q).get (sortC_ne _)
    obtain ⟨is, e2, e3⟩ := sortL_ok e1
    subst e3
    exact ⟨r, is, st, dn, e2, q⟩
  refine Calls.spliced_nil ?_
  refine thn (sorted_runX (X := X) (pins := pins) (σ := σ) (Kc := fun ks H' => ∃ (r : List D × Sv), Stp G σ ρ H r.2 H' ∧ r.1 = ks.map PyData.int ∧ ∀ v H', Stp G σ ρ H r.2 H' → RvOk G σ ρ H r.2 H' v (.own (.lst (r.1.mergeSort leD))) → Q v H') fun Q' hQ' => ?_) fun z s2 h2 => EP.imp h2 fun w H2 ⟨ks, H', ⟨r, st, e1, q⟩, sm, a, e2, hn, xs, h1, h3⟩ => ?_
  · refine collect_gx (k := k) (Room.in1 (Room.mono hr (by omega))) I1.ok.frames hG (fun s' acc H' ys q1 q2 q3 q4 q5 q6 ⟨r, is, st, dn, e1, q⟩ => ?_) fun e s' g hc => (noCX hc).elim
    have I2 : Inv X pins σ H' s' := I1.call' (ch := ex) q3 q5 q6 q4 hex
    rw [e1] at dn
    obtain rfl := dn.ints
    exact hQ' s' H' acc.toList is I2 (by rw [List.length_map] at q2; exact q2) q1.ints ⟨r, st, e1, q⟩
  · subst e2
    rw [← e1] at h3
    refine q _ _ (st.trans (.of_same st.rp sm)) ⟨a, rfl, ⟨xs, h1, hK ▸ h3⟩, ?_, .inl ?_, fun i hi z => st.rp.there hi z hn⟩
    · exact h0_of st.rp hn
    · cases ea : H a with
      | none => rfl
      | some u => exact absurd hn (st.ext.dom a (by rw [ea]; exact fun z => by cases z))
end
end Wk

set_option Elab.async false
set_option linter.all false
set_option maxRecDepth 100000
set_option maxHeartbeats 4000000
/-! further terms -/
namespace Wk
open PySem PySem.Spec PyProof.Rows L2
section
variable {X : Cx} {G : Gh} {pos : Pos}
theorem pv_dsp0 : PE X (.Dict [] [] pos) (rdV X G fun ρ => .ok (.own (.dct []), ρ)) :=
  ⟨fun pins s σ H Q I ⟨ρ, rp, o⟩ => pe_dnewK.run pins s σ H Q I fun p hp => o _ _ ((Stp.refl rp).then_same (same_new hp)) (fresh_own rp (Stp.refl rp) hp ⟨[], upd_same, .nil⟩)⟩
end
end Wk

set_option Elab.async false
set_option linter.all false
set_option maxRecDepth 100000
set_option maxHeartbeats 4000000
/-! a term stands for an expression of the text: the check -/
namespace Wk
open PySem PySem.Spec PyProof.Rows L2

/-- what is told of a program: the defs by name, their parameters; constants; the built-ins' names that are free -/
structure Mx where
  fns : List (Str × Nat)
  nps : List Nat
  gls : List (Str × D)
  free : List Str
/-- what is told of a body: its names by slots, their kinds; a comprehension's own scope -/
structure Sx where
  N : List Str
  sc : Scope
  blk : Option Scope
  gen : Bool
def Sx.fn (c : Sx) (x : Str) : Bool := match c.blk with
  | none => true
  | some s => s.names.lookup x == some .cell
def Sx.sub (c : Sx) (s : Scope) : Sx := { c with sc := relS s c.sc, blk := some s }
/-- within a generator expression -/
def Sx.sg (c : Sx) (s : Scope) : Sx := { c with sc := s, blk := some s, gen := false }
def kVis : Option NameKind → Bool
  | some .local => true
  | some .cell => true
  | some .free => true
  | _ => false
def kLoc : Option NameKind → Bool
  | some .local => true
  | some .cell => true
  | _ => false
def nameOk (x : Str) : Bool := !(x == ("__debug__" : Str)) && !(x == ("__classdict__" : Str))
def chkV (c : Sx) (i : Nat) : Expr → Bool
  | .Name x _ => decide (c.N[i]? = some x) && (kVis (c.sc.names.lookup x) && nameOk x)
  | _ => false
def isGl (c : Sx) (x : Str) : Bool := decide (c.sc.names.lookup x = some .globalImplicit) && nameOk x
def sokB (x : Str) : Bool := PyData.strOk x && decide (x.length ≤ sizeLine)
def litOk : Const → D → Bool
  | .none, .none => true
  | .bool a, .bool b => decide (a = b)
  | .int a, .int b => decide (a = b)
  | .str a, .str b => decide (a = b) && sokB a
  | _, _ => false
mutual
def eqD : D → D → Bool
  | .none, .none => true
  | .bool a, .bool b => decide (a = b)
  | .int a, .int b => decide (a = b)
  | .str a, .str b => decide (a = b)
  | .tuple a, .tuple b => eqDs a b
  | .list a, .list b => eqDs a b
  | _, _ => false
def eqDs : List D → List D → Bool
  | [], [] => true
  | a :: as, b :: bs => eqD a b && eqDs as bs
  | _, _ => false
end
mutual
theorem eqD_ok : ∀ {a b : D}, eqD a b = true → a = b
  | .none, b, h => by cases b <;> simp [eqD] at h; rfl
  | .bool x, b, h => by cases b <;> simp [eqD] at h; rw [h]
  | .int x, b, h => by cases b <;> simp [eqD] at h; rw [h]
  | .str x, b, h => by cases b <;> simp [eqD] at h; rw [h]
  | .tuple x, b, h => by cases b <;> simp [eqD] at h; rw [eqDs_ok h]
  | .list x, b, h => by cases b <;> simp [eqD] at h; rw [eqDs_ok h]
  | .dict x, b, h => by cases b <;> simp [eqD] at h
theorem eqDs_ok : ∀ {a b : List D}, eqDs a b = true → a = b
  | [], b, h => by cases b <;> simp [eqDs] at h; rfl
  | x :: xs, b, h => by
    cases b with
    | nil => simp [eqDs] at h
    | cons y ys =>
      simp [eqDs] at h
      rw [eqD_ok h.1, eqDs_ok h.2]
end
def tailB (op : BoolOp) (w : Expr) (rest : List Expr) (pos : Pos) : Expr := if rest.isEmpty then w else .BoolOp op (w :: rest) pos
def cvName : Cv → String
  | .tup => "tuple"
  | .lst => "list"
  | .int => "int"
  | .srt => "sorted"
def gkOk : Gk → Bool
  | .tup => true
  | .srt => true
  | _ => false
def gkName : Gk → String
  | .tup => "tuple"
  | .any => "any"
  | .all => "all"
  | .srt => "sorted"
  | .sum => "sum"
/-- a source that a generator expression takes as it is -/
def notDisp : Expr → Bool
  | .Set _ _ _ => false
  | .List _ _ => false
  | _ => true
def genSc (s : Scope) : Bool := (s.names.all fun y => match y.2 with
    | .cell => false
    | _ => true) && (!s.isCoroutine && decide (s.names.lookup (".0" : Str) = some NameKind.local))
def Es.len : Es → Nat
  | .nil => 0
  | .cons _ as => as.len + 1
def ownP (c : Sx) (own : List Nat) : List (Str × Nat) := own.filterMap fun i => (c.N[i]?).map fun x => (x, i)
mutual
def chkPt (c : Sx) : Pt → Expr → Bool
  | .v i, .Name x _ => decide (c.N[i]? = some x) && (kLoc (c.sc.names.lookup x) && (c.fn x || decide (c.sc.names.lookup x = some .local)))
  | .t ps, .Tuple es _ _ => chkPts c ps es
  | _, _ => false
def chkPts (c : Sx) : List Pt → List Expr → Bool
  | [], [] => true
  | p :: ps, e :: es => chkPt c p e && chkPts c ps es
  | _, _ => false
end
def blt (M : Mx) (c : Sx) (x : Str) (y : String) : Bool := decide (x = Str.ofString y) && (isGl c x && M.free.contains x)
mutual
def chkE (M : Mx) (c : Sx) : E → Expr → Bool
  | .lit d, .Constant k _ _ => litOk k d
  | .var i, e => chkV c i e
  | .mov i, e => chkV c i e
  | .glb x d, .Name y _ => decide (x = y) && (isGl c y && (match M.gls.lookup y with
    | some d' => eqD d d'
    | none => false))
  | .tup as, .Tuple es _ _ => chkEs M c as es && decide (as.len ≤ 1000)
  | .lst as, .List es _ => chkEs M c as es && decide (as.len ≤ 1000)
  | .bin op a b, .BinOp l o r _ => decide (o = opOf op) && (chkE M c a l && chkE M c b r)
  | .neg a, .UnaryOp o x _ => decide (o = .USub) && chkE M c a x
  | .cmp op a b, .Compare l [o] [r] _ => (decide (o = copOf op) && !behindInMarks o r) && (chkE M c a l && chkE M c b r)
  | .isn ng a, .Compare l [o] [.Constant .none _ _] _ => decide (o = if ng = true then .IsNot else .Is) && chkE M c a l
  | .mem ng a b, .Compare l [o] [r] _ => (decide (o = if ng = true then .NotIn else .In) && !behindInMarks o r) && (chkE M c a l && chkR M c b r)
  | .and a b, .BoolOp .And (v :: w :: rest) pos => chkE M c a v && chkE M c b (tailB .And w rest pos)
  | .or a b, .BoolOp .Or (v :: w :: rest) pos => chkE M c a v && chkE M c b (tailB .Or w rest pos)
  | .not a, .UnaryOp o x _ => decide (o = .Not) && chkE M c a x
  | .ite t a b, .IfExp x y z _ => chkE M c t x && (chkE M c a y && chkE M c b z)
  | .idx a i, .Subscript o s _ => notSlice s && (chkR M c a o && chkE M c i s)
  | .slc a lo hi, .Subscript o (.Slice l h none _) _ => chkR M c a o && (chkO M c lo l && chkO M c hi h)
  | .len a, .Call (.Name x _) [e] [] _ => (blt M c x "len" && notStar e) && chkR M c a e
  | .cv k a, .Call (.Name x _) [e] [] _ => (blt M c x (cvName k) && notStar e) && chkR M c a e
  | .isi a t, .Call (.Name x _) [e, .Name y _] [] _ => (blt M c x "isinstance" && (blt M c y (tyName t) && notStar e)) && chkR M c a e
  | .get a k, .Call (.Attribute o m apos) [e] [] cpos => (decide (m = Str.ofString "get") && (plainBase o && (notStar e && (apos.endLine == cpos.line)))) && (chkR M c a o && chkE M c k e)
  | .get2 a k d, .Call (.Attribute o m apos) [e, f] [] cpos => (decide (m = Str.ofString "get") && (plainBase o && ((notStar e && notStar f) && (apos.endLine == cpos.line)))) && (chkR M c a o && (chkE M c k e && chkE M c d f))
  | .call f as, .Call (.Name x _) (e :: es) [] _ => ((decide (M.fns.lookup x = some f) && isGl c x) && ((e :: es).all notStar && decide (M.nps[f]? = some as.len))) && chkAs M c as (e :: es)
  | .lc elt p s t own, .ListComp e [⟨tg, it, ifs, 0⟩] sc _ => ((blkC c.N c.sc sc (ownP c own) && (decide ((ownP c own).map (·.2) = own) && (p.slots.all fun i => own.contains i))) && (notSet it && chkPt (c.sub sc) p tg)) &&
      (chkSc M c s it && (chkC M (c.sub sc) t ifs && chkE M (c.sub sc) elt e))
  | .lc2 elt p s t p2 s2 t2 own, .ListComp e [⟨tg, it, ifs, 0⟩, ⟨tg2, it2, ifs2, 0⟩] sc _ => ((blkC c.N c.sc sc (ownP c own) && (decide ((ownP c own).map (·.2) = own) && ((p.slots.all fun i => own.contains i) && p2.slots.all fun i => own.contains i))) &&
      ((notSet it && notSet it2) && (chkPt (c.sub sc) p tg && chkPt (c.sub sc) p2 tg2))) && ((chkSc M c s it && chkSc M (c.sub sc) s2 it2) && ((chkC M (c.sub sc) t ifs && chkC M (c.sub sc) t2 ifs2) && chkE M (c.sub sc) elt e))
  | .dc ek ev p s t own, .DictComp k v [⟨tg, it, ifs, 0⟩] sc _ => ((blkC c.N c.sc sc (ownP c own) && (decide ((ownP c own).map (·.2) = own) && (p.slots.all fun i => own.contains i))) && (notSet it && chkPt (c.sub sc) p tg)) &&
      (chkSc M c s it && (chkC M (c.sub sc) t ifs && (chkE M (c.sub sc) ek k && chkE M (c.sub sc) ev v)))
  | .dsp0, .Dict [] [] _ => true
  | .gen k elt p s t own, .Call (.Name x _) [.GeneratorExp e [⟨tg, it, ifs, 0⟩] sc _] [] _ => (((c.gen && gkOk k) && (blt M c x (gkName k) && genSc sc)) && ((blkC c.N c.sc sc (ownP c own) && (decide ((ownP c own).map (·.2) = own) && (p.slots.all fun i => own.contains i))) && (notDisp it && chkPt (c.sg sc) p tg))) &&
      (chkSc M c s it && (chkC M (c.sg sc) t ifs && chkE M (c.sg sc) elt e))
  | _, _ => false
def chkEs (M : Mx) (c : Sx) : Es → List Expr → Bool
  | .nil, [] => true
  | .cons a as, e :: es => notStar e && (chkE M c a e && chkEs M c as es)
  | _, _ => false
def chkO (M : Mx) (c : Sx) : Eo → Option Expr → Bool
  | .no, none => true
  | .so a, some e => chkE M c a e
  | _, _ => false
def chkC (M : Mx) (c : Sx) : Eo → List Expr → Bool
  | .no, [] => true
  | .so a, [e] => chkE M c a e
  | _, _ => false
def chkR (M : Mx) (c : Sx) : Rdo → Expr → Bool
  | .e a, e => chkE M c a e
  | .s i, e => chkV c i e
def chkAs (M : Mx) (c : Sx) : As → List Expr → Bool
  | .nil, [] => true
  | .e a as, e :: es => notStar e && (chkE M c a e && chkAs M c as es)
  | .bor i as, e :: es => chkV c i e && chkAs M c as es
  | .chg i as, e :: es => chkV c i e && chkAs M c as es
  | _, _ => false
def chkSc (M : Mx) (c : Sx) : Sc → Expr → Bool
  | .it a, e => chkR M c a e
  | .rng1 a, .Call (.Name x _) [e] [] _ => (blt M c x "range" && notStar e) && chkE M c a e
  | .rng2 a b, .Call (.Name x _) [e, f] [] _ => (blt M c x "range" && (notStar e && notStar f)) && (chkE M c a e && chkE M c b f)
  | _, _ => false
end

/-! ### statements -/
/-- is name = e stored in the comprehension's end -/
def swB (c : Sx) (x : Str) (p : Pos) (e : Expr) : Option Bool := match e with
  | .ListComp _ _ s q => some (decide (c.sc.names.lookup x = some .local) && ((p.line == q.line) && !(s.names.any fun (n, k) => n == x && (k == .local || k == .cell))))
  | .DictComp _ _ _ s q => some (decide (c.sc.names.lookup x = some .local) && ((p.line == q.line) && !(s.names.any fun (n, k) => n == x && (k == .local || k == .cell))))
  | .SetComp _ _ _ _ => none
  | _ => some false
def notTup : Expr → Bool
  | .Tuple _ _ _ => false
  | _ => true
def notComp : Expr → Bool
  | .ListComp _ _ _ _ => false
  | .SetComp _ _ _ _ => false
  | .DictComp _ _ _ _ _ => false
  | _ => true
mutual
def chkS (M : Mx) (c : Sx) : S → Stmt → Bool
  | .asg (.v i) a, .Assign [.Name x p] e _ => (chkPt c (.v i) (.Name x p) && (swB c x p e).isSome) && chkE M c a e
  | .asg (.t ps) a, .Assign [.Tuple es k p] e _ => (chkPt c (.t ps) (.Tuple es k p) && notTup e) && chkE M c a e
  | .aug i op a, .AugAssign (.Name x p) o e _ => (chkPt c (.v i) (.Name x p) && (decide (o = opOf op) && (decide (op = .add) || decide (op = .sub)))) && chkE M c a e
  | .app i a, .Expr (.Call (.Attribute o m apos) [e] [] cpos) _ => ((decide (m = Str.ofString "append") && plainBase o) && (notStar e && (apos.endLine == cpos.line))) && (chkV c i o && chkE M c a e)
  | .sti i k a, .Assign [.Subscript o s _] e _ => notSlice s && (chkV c i o && (chkE M c k s && chkE M c a e))
  | .ex a, .Expr e _ => notComp e && chkE M c a e
  | .iff t a b, .If x y z _ => chkE M c t x && (chkSs M c a y && chkSs M c b z)
  | .whl t b, .While x y [] _ => chkE M c t x && chkSs M c b y
  | .for p s b, .For tg it y [] _ => (notSet it && chkPt c p tg) && (chkSc M c s it && chkSs M c b y)
  | .ret a, .Return (some e) _ => chkE M c a e
  | .ret0, .Return none _ => true
  | .brk, .Break _ => true
  | .cnt, .Continue _ => true
  | .pas, .Pass _ => true
  | _, _ => false
def chkSs (M : Mx) (c : Sx) : Ss → List Stmt → Bool
  | .nil, [] => true
  | .cons s ss, t :: ts => chkS M c s t && chkSs M c ss ts
  | _, _ => false
end
end Wk

set_option Elab.async false
set_option linter.all false
set_option maxRecDepth 100000
set_option maxHeartbeats 8000000
/-! the check tells the truth: expressions -/
namespace Wk
open PySem PySem.Spec PyProof.Rows L2

theorem R.bind_assoc {α β γ : Type} (m : R α) (f : α → R β) (g : β → R γ) : ((m >>= f) >>= g) = (m >>= fun a => f a >>= g) := by
  cases m <;> rfl
theorem guardR_bind {α β : Type} (b : Bool) (m : R α) (f : α → R β) : (guardR b m >>= f) = guardR b (m >>= f) := by
  cases b <;> rfl
/-- what is known of the program where a body runs -/
structure MOk (M : Mx) (P : Program) (w : World) (K : PySem.W.Frag) (mg : Str → Option Value) (base : Heap) (T : List Addr) (ec : Nat → Option (Addr × List Str)) (n : Calls) (k : Nat) : Prop where
  fn : ∀ x i, M.fns.lookup x = some i → ∃ (f : Addr) (fd : FuncData) (ps : List Str) (d : Fd), M.nps[i]? = some d.np ∧ mg x = some (.ref f) ∧ PySem.W.keepIn K (.ref f) = true ∧ Binds K fd ps [] ∧ ps.length = d.np ∧
    FnOk P w K mg base (L2.CX P w) k f fd ps (spF K T ec n d i)
  gl : ∀ x d, M.gls.lookup x = some d → ∃ (u : Value) (v : V), mg x = some u ∧ RelV v u ∧ ∀ H, Dn K H v d
  fr : ∀ x, x ∈ M.free → mg x = none
structure XOk (M : Mx) (c : Sx) (G : Gh) (n : Calls) (k : Nat) (X : Cx) : Prop where
  K : X.K = G.K
  N : X.N = c.N
  nd : X.N.Nodup
  sc : X.env.scope = c.sc
  kind : X.env.scope.kind = .function
  fn : ∀ x, c.fn x = true → X.fn x = true
  calm : X.calm = true
  room : Room k X.A
  m : MOk M X.prog X.w X.K X.mg X.base G.T G.ec n k
  gen : c.gen = true → (∃ cc P, GxR.TabB X.base X.mg cc P ∧ X.env.code = .ref cc ∧ P ∈ G.T) ∧ ∃ j, k = j + 8 ∧ MOk M X.prog X.w X.K X.mg X.base G.T G.ec (dnC n) j
section
variable {M : Mx} {c : Sx} {G : Gh} {n : Calls} {k : Nat} {X : Cx}
theorem XOk.hu (o : XOk M c G n k X) : X.A.units + 64 < cLine := by have := o.room.un; omega
theorem XOk.hu1 (o : XOk M c G n k X) : X.A.units + 1 < cLine := by have := o.room.un; omega
theorem XOk.blk (o : XOk M c G n k X) {scope : Scope} (hk : scope.kind = .function) (s : Shared) (H : Hp) (C : Addr) (cl : List (Str × Addr)) (fp : List Addr) : XOk M (c.sub scope) G n k (X.blk s H scope (compEnvC scope cl C X.env) fp) where
  K := o.K
  N := o.N
  nd := o.nd
  sc := by
    show relS scope X.env.scope = relS scope c.sc
    rw [o.sc]
  kind := hk
  fn := fun x h => h
  calm := o.calm
  room := o.room
  m := o.m
  gen := o.gen
theorem genSc_ok {s : Scope} (h : genSc s = true) : (∀ y ∈ s.names, y.2 ≠ .cell) ∧ s.isCoroutine = false ∧ s.names.lookup (".0" : Str) = some NameKind.local := by
  unfold genSc at h
  simp only [Bool.and_eq_true, List.all_eq_true, decide_eq_true_eq, Bool.not_eq_true'] at h
  refine ⟨fun y hy e => ?_, h.2⟩
  have := h.1 y hy
  simp only [e] at this
  cases this
theorem XOk.sg (o : XOk M c G n k X) {j : Nat} {scope : Scope} (hk : scope.kind = .function) (hc : ∀ y ∈ scope.names, y.2 ≠ .cell) (m : MOk M X.prog X.w X.K X.mg X.base G.T G.ec (dnC n) j) (sc : Shared) (H3 : Hp) (genv : PySem.Env) (fp : List Addr) (A : Around) (a : Addr) (go : Obj) (hr : Room (j + 1) A) (hs : genv.scope = scope) :
    XOk M (c.sg scope) G (dnC n) j (gxX X sc H3 genv fp A a go) where
  K := o.K
  N := o.N
  nd := o.nd
  sc := hs
  kind := by show genv.scope.kind = _; rw [hs]; exact hk
  fn := fun x h => by
    have h : (scope.names.lookup x == some .cell) = true := h
    exact absurd rfl (hc _ (PySem.mem_of_lookup (beq_iff_eq.mp h)))
  calm := o.calm
  room := hr.deeper genv
  m := m
  gen := fun h => by cases h
theorem genFold_ok {it : Expr} (h : notDisp it = true) (env : PySem.Env) (v : Value) : genFold it env v = pure v := by
  unfold genFold foldedSetIterable
  cases it <;> first | rfl | cases h
theorem vis_ok (o : XOk M c G n k X) {x : Str} (h : kVis (c.sc.names.lookup x) = true) : Vis X.env.scope x := by
  unfold Vis
  rw [o.sc]
  cases e : c.sc.names.lookup x with
  | none => rw [e] at h; cases h
  | some q => cases q with
    | «local» => exact .inl rfl
    | cell => exact .inr (.inl rfl)
    | free => exact .inr (.inr rfl)
    | globalExplicit => rw [e] at h; cases h
    | globalImplicit => rw [e] at h; cases h
theorem loc_ok (o : XOk M c G n k X) {x : Str} (h : kLoc (c.sc.names.lookup x) = true) : L2.Loc X.env.scope x := by
  unfold L2.Loc
  rw [o.sc]
  cases e : c.sc.names.lookup x with
  | none => rw [e] at h; cases h
  | some q => cases q with
    | «local» => exact .inl rfl
    | cell => exact .inr rfl
    | free => rw [e] at h; cases h
    | globalExplicit => rw [e] at h; cases h
    | globalImplicit => rw [e] at h; cases h
theorem name_ok {x : Str} (h : nameOk x = true) : (x == ("__debug__" : Str)) = false ∧ (x == ("__classdict__" : Str)) = false := by
  unfold nameOk at h
  obtain ⟨h1, h2⟩ := Bool.and_eq_true_iff.mp h
  exact ⟨by simpa using h1, by simpa using h2⟩
theorem var_ok (o : XOk M c G n k X) {i : Nat} {e : Expr} (h : chkV c i e = true) : PE X e (tVar i) := by
  cases e with
  | Name x p =>
    simp only [chkV, Bool.and_eq_true, decide_eq_true_eq] at h
    obtain ⟨h1, h2, h3⟩ := h
    obtain ⟨h4, h5⟩ := name_ok h3
    exact pe_var (by rw [o.N]; exact h1) (vis_ok o h2) h4 h5
  | _ => cases h
theorem chkV_name {i : Nat} {e : Expr} (h : chkV c i e = true) : ∃ x p, e = .Name x p := by
  cases e with
  | Name x p => exact ⟨x, p, rfl⟩
  | _ => cases h
theorem isGl_ok (o : XOk M c G n k X) {x : Str} (h : isGl c x = true) : Gl X x ∧ (x == ("__debug__" : Str)) = false := by
  unfold isGl at h
  obtain ⟨h1, h2⟩ := Bool.and_eq_true_iff.mp h
  refine ⟨?_, (name_ok h2).1⟩
  show X.env.scope.names.lookup x = _
  rw [o.sc]
  exact of_decide_eq_true h1
theorem blt_ok (o : XOk M c G n k X) {x : Str} {y : String} (h : blt M c x y = true) : x = Str.ofString y ∧ Gl X x ∧ X.mg x = none := by
  unfold blt at h
  simp only [Bool.and_eq_true, decide_eq_true_eq] at h
  obtain ⟨h1, h2, h3⟩ := h
  exact ⟨h1, (isGl_ok o h2).1, o.m.fr x (by simpa using h3)⟩
/-- a test as any value -/
def plainT : Expr → Bool
  | .UnaryOp .Not _ _ => false
  | .BoolOp _ _ _ => false
  | .IfExp _ _ _ _ => false
  | .Compare _ _ _ _ => false
  | _ => true
theorem isTrue_plainT {e : Expr} (h : plainT e = true) (env : PySem.Env) : isTrue e env (eval e env) = (do let v ← eval e env; standAt e.pos; holding [v] (truthy v)) := by
  cases e with
  | UnaryOp op x p => cases op <;> first | rfl | cases h
  | BoolOp => cases h
  | IfExp => cases h
  | Compare => cases h
  | _ => rfl
structure SE (X : Cx) (G : Gh) (n : Calls) (e : Expr) (t : E) : Prop where
  v : PE X e (rdV X G (evE n t))
  tt : PT X e (rdT X G (evT n t))
  kk : PE X e (rdK X G (evT n t))
  u : notComp e = false → PU X e (rdV X G (evE n t))
/-- terms whose test is their value's -/
def valT : E → Bool
  | .var _ => false
  | .and _ _ => false
  | .or _ _ => false
  | .not _ => false
  | .ite _ _ _ => false
  | _ => true
theorem evT_val {t : E} (h : valT t = true) (ρ : Sv) : evT n t ρ = (evE n t ρ >>= fun r => truthC r.1.cn >>= fun c => .ok (c, r.2)) := by
  cases t <;> first | (simp only [evT]; done) | cases h
theorem SE.of {e : Expr} {t : E} (o : XOk M c G n k X) (hv : PE X e (rdV X G (evE n t))) (ht : valT t = true) (he : plainT e = true ∨ ∃ a op b p, e = .Compare a [op] [b] p) (hu : notComp e = false → PU X e (rdV X G (evE n t))) : SE X G n e t := by
  have hk : PE X e (rdK X G (evT n t)) := by
    have : evT n t = fun ρ => evE n t ρ >>= fun r => truthC r.1.cn >>= fun c => .ok (c, r.2) := funext fun ρ => evT_val ht ρ
    rw [this]
    exact pk_of hv
  refine ⟨hv, ?_, hk, hu⟩
  rcases he with he | ⟨a, op, b, p, rfl⟩
  · exact pt_of o.K hk (isTrue_plainT he X.env)
  · exact pt_cmp1 o.K hk
theorem SE.dat {e : Expr} {t : E} (h : SE X G n e t) : PE X e (rdD X G fun ρ => datR (evE n t ρ)) := pd_of h.v
theorem SE.cn {e : Expr} {t : E} (h : SE X G n e t) : PE X e (rdC X G fun ρ => evE n t ρ >>= fun r => .ok (r.1.cn, r.2)) := pc_of h.v
/-- a datum's term -/
theorem SE.ofD {e : Expr} {t : E} {f : Sv → R (D × Sv)} (o : XOk M c G n k X) (h : PE X e (rdD X G f)) (hf : ∀ ρ, evE n t ρ = (f ρ >>= fun r => .ok (.im r.1, r.2))) (ht : valT t = true) (he : plainT e = true ∨ ∃ a op b p, e = .Compare a [op] [b] p) (hc : notComp e = true) : SE X G n e t :=
  .of o (rd_congr (pv_of h) hf) ht he fun z => by rw [hc] at z; cases z
theorem SE.ofV {e : Expr} {t : E} {f : Sv → R (Sl × Sv)} (o : XOk M c G n k X) (h : PE X e (rdV X G f)) (hf : ∀ ρ, evE n t ρ = f ρ) (ht : valT t = true) (he : plainT e = true ∨ ∃ a op b p, e = .Compare a [op] [b] p) (hc : notComp e = true) : SE X G n e t :=
  .of o (rd_congr h hf) ht he fun z => by rw [hc] at z; cases z
theorem rd_congrU {e : Expr} {f g : Sv → R (Sl × Sv)} (h : PU X e (rdV X G f)) (q : ∀ ρ, g ρ = f ρ) : PU X e (rdV X G g) := by
  have : g = f := funext q
  rw [this]; exact h
theorem SE.ofB {e : Expr} {t : E} {f : Sv → R (Sl × Sv)} (o : XOk M c G n k X) (h : PB X e (rdV X G f)) (hf : ∀ ρ, evE n t ρ = f ρ) (ht : valT t = true) (he : plainT e = true) : SE X G n e t :=
  .of o (rd_congr h.pe hf) ht (.inl he) fun _ => rd_congrU h.pu hf
/-! ### and, or with a tail -/
theorem tail_t {op : BoolOp} {w : Expr} {rest : List Expr} {pos : Pos} {f : Sv → R (Bool × Sv)} (h : PT X (tailB op w rest pos) (rdT X G f)) : PT X (.BoolOp op (w :: rest) pos) (rdT X G f) := by
  unfold tailB at h
  cases rest with
  | nil => cases op with
    | And => exact pt_and1 h
    | Or => exact pt_or1 h
  | cons r rs => exact h
theorem tail_e {op : BoolOp} {w : Expr} {rest : List Expr} {pos : Pos} {t : TE} (h : PE X (tailB op w rest pos) t) : PE X (.BoolOp op (w :: rest) pos) t := by
  unfold tailB at h
  cases rest with
  | nil => exact pe_one h
  | cons r rs => exact h
/-! ### targets -/
theorem each_length : ∀ (es : List Expr) (env : PySem.Env), (assignEach es env).length = es.length
  | [], _ => rfl
  | e :: es, env => by cases e <;> (simp only [assignEach, List.length_cons]; rw [each_length es env])
mutual
theorem pt_ok (o : XOk M c G n k X) : ∀ {p : Pt} {e : Expr}, chkPt c p e = true → PG X e (rdG G p) ∧ ∀ x q, e ≠ .Starred x q
  | .v i, e, h => by
    cases e with
    | Name x q =>
      simp only [chkPt, Bool.and_eq_true, Bool.or_eq_true, decide_eq_true_eq] at h
      obtain ⟨h1, h2, h3⟩ := h
      refine ⟨pg_v o.nd (by rw [o.N]; exact h1) (loc_ok o h2) ?_, fun _ _ z => by cases z⟩
      rcases h3 with h3 | h3
      · exact .inl (o.fn x h3)
      · exact .inr (by rw [o.sc]; exact h3)
    | _ => cases h
  | .t ps, e, h => by
    cases e with
    | Tuple es q r =>
      have h : chkPts c ps es = true := h
      obtain ⟨g, hl, hst⟩ := pts_ok o h
      exact ⟨pg_t o.K o.calm g hl (fun env => each_length es env) hst, fun _ _ z => by cases z⟩
    | _ => cases h
theorem pts_ok (o : XOk M c G n k X) : ∀ {ps : List Pt} {es : List Expr}, chkPts c ps es = true → PGs X es (rdGs G ps) ∧ es.length = ps.length ∧ (assignEach es X.env).findIdx? (·.1) = none
  | [], [], _ => ⟨pgs_n, rfl, rfl⟩
  | [], _ :: _, h => by cases h
  | _ :: _, [], h => by cases h
  | p :: ps, e :: es, h => by
    simp only [chkPts, Bool.and_eq_true] at h
    obtain ⟨g1, hn⟩ := pt_ok o h.1
    obtain ⟨g2, hl, hst⟩ := pts_ok o h.2
    have hs : assignEach (e :: es) X.env = (false, assign e X.env) :: assignEach es X.env := by
      cases e <;> first | rfl | exact absurd rfl (hn _ _)
    exact ⟨pgs_c g1 g2 (by rw [hs]; rfl), by simp [hl], by rw [hs, List.findIdx?_cons]; simp [hst]⟩
end
/-! ### constants -/
theorem lit_ok {kk : Const} {d : D} {j : Nat} {pos : Pos} (h : litOk kk d = true) : PE X (.Constant kk j pos) (rdV X G fun ρ => .ok (.im d, ρ)) := by
  cases kk <;> cases d <;> try (cases h; done)
  · exact pv_lit pe_non fun H => .non
  · obtain rfl := of_decide_eq_true h; exact pv_lit pe_bl fun H => .bl _
  · obtain rfl := of_decide_eq_true h; exact pv_lit pe_int fun H => .int _
  · simp only [litOk, Bool.and_eq_true, decide_eq_true_eq, sokB] at h
    obtain ⟨rfl, h1, h2⟩ := h
    exact pv_lit pe_str fun H => .str _ ⟨h1, h2⟩
theorem evEs_len (n : Calls) : ∀ (as : Es) (ρ : Sv) (r : List D × Sv), evEs n as ρ = .ok r → r.1.length = as.len
  | .nil, ρ, r, h => by simp only [evEs] at h; cases h; rfl
  | .cons a as, ρ, r, h => by
    simp only [evEs] at h
    obtain ⟨r1, e1, h⟩ := R.bind_ok h
    obtain ⟨r2, e2, h⟩ := R.bind_ok h
    cases h
    show r2.1.length + 1 = as.len + 1
    rw [evEs_len n as _ _ e2]
theorem small_size {m : Nat} (h : m ≤ 1000) : m ≤ sizeLine := Nat.le_trans h (by decide)
end
end Wk

set_option Elab.async false
set_option linter.all false
set_option maxRecDepth 100000
set_option maxHeartbeats 8000000
/-! the check tells the truth: expressions, all of them -/
namespace Wk
open PySem PySem.Spec PyProof.Rows L2

section
variable {M : Mx} {G : Gh} {n : Calls} {k : Nat}
theorem PE.congr {X : Cx} {e : Expr} {f g : Sv → R (D × Sv)} (h : PE X e (rdD X G f)) (q : ∀ ρ, g ρ = f ρ) : PE X e (rdD X G g) := rd_congrD h q
theorem pc_congr {X : Cx} {e : Expr} {f g : Sv → R (Cn × Sv)} (h : PE X e (rdC X G f)) (q : ∀ ρ, g ρ = f ρ) : PE X e (rdC X G g) := by
  have : g = f := funext q
  rw [this]; exact h
theorem pi_congr {X : Cx} {e tg : Expr} {is : List Nat} {f g : Sv → R (List D × Sv)} (h : PI X tg e (rdI X G is f)) (q : ∀ ρ, g ρ = f ρ) : PI X tg e (rdI X G is g) := by
  have : g = f := funext q
  rw [this]; exact h
theorem pb_congr {X : Cx} {e : Expr} {f g : Sv → R (Sl × Sv)} (h : PB X e (rdV X G f)) (q : ∀ ρ, g ρ = f ρ) : PB X e (rdV X G g) := by
  have : g = f := funext q
  rw [this]; exact h
theorem mem_slots {own : List Nat} {ps : List Nat} (h : (ps.all fun i => own.contains i) = true) : ∀ i ∈ ps, i ∈ own := fun i hi => by
  have := List.all_eq_true.mp h i hi
  simpa using this
theorem pv_mov {X : Cx} {e : Expr} {i : Nat} (h : PE X e (tVar i)) : PE X e (rdV X G fun ρ => movS ρ i) := by
  refine ⟨fun pins s σ H Q I ⟨ρ, rp, o⟩ => ?_⟩
  replace o : Out3 X G σ ρ H (movS ρ i) _ := o
  unfold movS at o
  cases e1 : ρ[i]? with
  | none => rw [e1] at o; exact False.elim o
  | some q => cases q with
    | none => rw [e1] at o; exact False.elim o
    | some sl =>
      obtain ⟨v, hv, ok⟩ := rp.slot i sl e1
      rw [e1] at o
      cases sl with
      | im d => exact h.run pins s σ H Q I ⟨v, hv, o v H (.refl rp) ok⟩
      | bor c => exact False.elim o
      | chg c => exact False.elim o
      | own c =>
        obtain ⟨a, rfl, h1, h2⟩ := ok
        have om : isOM ρ[i]? = true := by rw [e1]; rfl
        have e2 : ρ.set i none = wipeS ρ [i] := rfl
        refine h.run pins s σ H Q I ⟨.ref a, hv, o _ H ⟨by rw [e2]; exact rp.forget [i], .refl, fun j hj => by rw [e2] at hj; exact (isOM_wipe hj).1, (BC.refl ρ).set rfl⟩ ⟨a, rfl, h1, h2, .inr ⟨i, om, hv⟩, fun j hj z => ?_⟩⟩
        have hj : isCt (wipeS ρ [i])[j]? = true := hj
        obtain ⟨q1, q2⟩ := isCt_wipe hj
        exact rp.sep i j a (fun e => q2 (by rw [e]; exact List.mem_singleton.mpr rfl)) om q1 hv z
theorem ownP_ok {c : Sx} {own : List Nat} (h : (ownP c own).map (·.2) = own) : ∀ i ∈ own, i ∈ (ownP c own).map (·.2) := fun i hi => by rw [h]; exact hi
theorem blk_kind {N : List Str} {sc scope : Scope} {own : List (Str × Nat)} (h : blkC N sc scope own = true) : scope.kind = .function := (blkOk_by h).kind
theorem evAs_congr {X : Cx} {as : As} {es : List Expr} {f g : Sv → R (List Sl × Sv)} (h : PA X es (rdA X G as f)) (q : ∀ ρ, g ρ = f ρ) : PA X es (rdA X G as g) := by
  have : g = f := funext q
  rw [this]; exact h
theorem po_congr {X : Cx} {l : Option Expr} {f g : Sv → R (Option Int × Sv)} (h : PO X l (rdO X G f)) (q : ∀ ρ, g ρ = f ρ) : PO X l (rdO X G g) := by
  have : g = f := funext q
  rw [this]; exact h
theorem plain_slice {b : Expr} (h : notSlice b = true) : PlainIx b := by
  intro o i
  cases b <;> first | rfl | cases h
mutual
theorem snd_E : ∀ (t : E) {n : Calls} {k : Nat} {c : Sx} {X : Cx} (o : XOk M c G n k X) {e : Expr}, chkE M c t e = true → SE X G n e t
  | .lit d, n, k, c, X, o, e, h => by
    cases e with
    | Constant kk j pos => exact .ofV o (lit_ok h) (fun ρ => by simp only [evE]) rfl (.inl rfl) rfl
    | _ => cases h
  | .var i, n, k, c, X, o, e, h => by
    have h : chkV c i e = true := h
    have hv := var_ok o h
    obtain ⟨x, p, rfl⟩ := chkV_name h
    have e1 : evE n (.var i) = fun ρ => varS ρ i := funext fun ρ => by simp only [evE]
    have e2 : evT n (.var i) = fun ρ => slotC ρ i >>= fun c => truthC c >>= fun b => .ok (b, ρ) := funext fun ρ => by simp only [evT]
    have hk : PE X (.Name x p) (rdK X G (evT n (.var i))) := by rw [e2]; exact pk_var hv
    refine ⟨by rw [e1]; exact pv_var hv, pt_of o.K hk (isTrue_plainT rfl X.env), hk, fun z => by cases z⟩
  | .mov i, n, k, c, X, o, e, h => by
    have h : chkV c i e = true := h
    have hv := var_ok o h
    obtain ⟨x, p, rfl⟩ := chkV_name h
    exact .ofV o (pv_mov hv) (fun ρ => by simp only [evE]) rfl (.inl rfl) rfl
  | .glb x d, n, k, c, X, o, e, h => by
    cases e with
    | Name y p =>
      simp only [chkE, Bool.and_eq_true, decide_eq_true_eq] at h
      obtain ⟨rfl, h1, h2⟩ := h
      obtain ⟨g1, g2⟩ := isGl_ok o h1
      cases e : M.gls.lookup x with
      | none => rw [e] at h2; cases h2
      | some d' =>
        rw [e] at h2
        obtain rfl := eqD_ok h2
        obtain ⟨u, v, m1, m2, m3⟩ := o.m.gl x d e
        exact .ofV o (pv_lit (pe_glob g1 m1 m2 g2) fun H => o.K ▸ m3 H) (fun ρ => by simp only [evE]) rfl (.inl rfl) rfl
    | _ => cases h
  | .tup as, n, k, c, X, o, e, h => by
    cases e with
    | Tuple es j pos =>
      simp only [chkE, Bool.and_eq_true, decide_eq_true_eq] at h
      exact .ofD o (pd_tup (snd_Es as o h.1) fun ρ r e => by rw [evEs_len n as ρ r e]; exact small_size h.2) (fun ρ => by simp only [evE, R.bind_assoc, R.ok_bind]) rfl (.inl rfl) rfl
    | _ => cases h
  | .lst as, n, k, c, X, o, e, h => by
    cases e with
    | List es pos =>
      simp only [chkE, Bool.and_eq_true, decide_eq_true_eq] at h
      exact .ofV o (pv_lst (snd_Es as o h.1) fun ρ r e => by rw [evEs_len n as ρ r e]; exact small_size h.2) (fun ρ => by simp only [evE]) rfl (.inl rfl) rfl
    | _ => cases h
  | .bin op a b, n, k, c, X, o, e, h => by
    cases e with
    | BinOp l oo r pos =>
      simp only [chkE, Bool.and_eq_true, decide_eq_true_eq] at h
      obtain ⟨rfl, h1, h2⟩ := h
      exact .ofV o (pv_op o.K (bin_ok op) (binD_ne op) (snd_E a o h1).dat (snd_E b o h2).dat) (fun ρ => by simp only [evE]) rfl (.inl rfl) rfl
    | _ => cases h
  | .neg a, n, k, c, X, o, e, h => by
    cases e with
    | UnaryOp oo x pos =>
      simp only [chkE, Bool.and_eq_true, decide_eq_true_eq] at h
      obtain ⟨rfl, h1⟩ := h
      refine .ofD o (pd_neg (snd_E a o h1).dat) (fun ρ => ?_) rfl (.inl rfl) rfl
      simp only [evE, R.bind_assoc]
      congr 1
      funext r
      obtain ⟨d, ρ1⟩ := r
      cases d <;> rfl
    | _ => cases h
  | .cmp op a b, n, k, c, X, o, e, h => by
    cases e with
    | Compare l ops rs pos =>
      match ops, rs, h with
      | [oo], [r], h =>
        simp only [chkE, Bool.and_eq_true, decide_eq_true_eq, Bool.not_eq_true'] at h
        obtain ⟨⟨rfl, hm⟩, h1, h2⟩ := h
        exact .ofD o (pd_cmp o.K (cmp_ok o.hu op) (cmpD_ne op) (snd_E a o h1).dat (snd_E b o h2).dat hm) (fun ρ => by simp only [evE, R.bind_assoc, R.ok_bind]) rfl (.inr ⟨_, _, _, _, rfl⟩) rfl
      | [], _, h => cases h
      | _ :: _ :: _, _, h => cases h
      | [_], [], h => cases h
      | [_], _ :: _ :: _, h => cases h
    | _ => cases h
  | .isn ng a, n, k, c, X, o, e, h => by
    cases e with
    | Compare l ops rs pos =>
      match ops, rs, h with
      | [oo], [.Constant .none j p], h =>
        simp only [chkE, Bool.and_eq_true, decide_eq_true_eq] at h
        obtain ⟨rfl, h1⟩ := h
        exact .ofD o (pd_isn (snd_E a o h1).dat) (fun ρ => by simp only [evE, R.bind_assoc, R.ok_bind]) rfl (.inr ⟨_, _, _, _, rfl⟩) rfl
    | _ => cases h
  | .mem ng a b, n, k, c, X, o, e, h => by
    cases e with
    | Compare l ops rs pos =>
      match ops, rs, h with
      | [oo], [r], h =>
        simp only [chkE, Bool.and_eq_true, decide_eq_true_eq, Bool.not_eq_true'] at h
        obtain ⟨⟨rfl, hm⟩, h1, h2⟩ := h
        exact .ofD o (pd_mem o.hu o.K (snd_E a o h1).dat (snd_R b o h2) hm) (fun ρ => by simp only [evE, R.bind_assoc, R.ok_bind]) rfl (.inr ⟨_, _, _, _, rfl⟩) rfl
      | [], _, h => cases h
      | _ :: _ :: _, _, h => cases h
      | [_], [], h => cases h
      | [_], _ :: _ :: _, h => cases h
    | _ => cases h
  | .and a b, n, k, c, X, o, e, h => by
    cases e with
    | BoolOp op vs pos =>
      match op, vs, h with
      | .And, v :: w :: rest, h =>
        simp only [chkE, Bool.and_eq_true] at h
        have ha := snd_E a o h.1
        have hb := snd_E b o h.2
        have e1 : evE n (.and a b) = fun ρ => datR (evE n a ρ) >>= fun r => truthD r.1 >>= fun c => if c = true then evE n b r.2 else .ok (.im r.1, r.2) := funext fun ρ => by simp only [evE]
        have e2 : evT n (.and a b) = fun ρ => evT n a ρ >>= fun r => if r.1 = true then evT n b r.2 else .ok (false, r.2) := funext fun ρ => by simp only [evT]
        exact ⟨by rw [e1]; exact pv_and o.K ha.dat (tail_e hb.v), by rw [e2]; exact pt_and ha.tt (tail_t hb.tt), by rw [e2]; exact pk_and o.K ha.kk (tail_e hb.kk), fun z => by cases z⟩
      | .And, [], h => cases h
      | .And, [_], h => cases h
      | .Or, _, h => cases h
    | _ => cases h
  | .or a b, n, k, c, X, o, e, h => by
    cases e with
    | BoolOp op vs pos =>
      match op, vs, h with
      | .Or, v :: w :: rest, h =>
        simp only [chkE, Bool.and_eq_true] at h
        have ha := snd_E a o h.1
        have hb := snd_E b o h.2
        have e1 : evE n (.or a b) = fun ρ => datR (evE n a ρ) >>= fun r => truthD r.1 >>= fun c => if c = true then .ok (.im r.1, r.2) else evE n b r.2 := funext fun ρ => by simp only [evE]
        have e2 : evT n (.or a b) = fun ρ => evT n a ρ >>= fun r => if r.1 = true then .ok (true, r.2) else evT n b r.2 := funext fun ρ => by simp only [evT]
        exact ⟨by rw [e1]; exact pv_or o.K ha.dat (tail_e hb.v), by rw [e2]; exact pt_or ha.tt (tail_t hb.tt), by rw [e2]; exact pk_or o.K ha.kk (tail_e hb.kk), fun z => by cases z⟩
      | .Or, [], h => cases h
      | .Or, [_], h => cases h
      | .And, _, h => cases h
    | _ => cases h
  | .not a, n, k, c, X, o, e, h => by
    cases e with
    | UnaryOp oo x pos =>
      simp only [chkE, Bool.and_eq_true, decide_eq_true_eq] at h
      obtain ⟨rfl, h1⟩ := h
      have ha := snd_E a o h1
      have e1 : evE n (.not a) = fun ρ => evT n a ρ >>= fun r => .ok (.im (.bool (!r.1)), r.2) := funext fun ρ => by simp only [evE]
      have e2 : evT n (.not a) = fun ρ => evT n a ρ >>= fun r => .ok (!r.1, r.2) := funext fun ρ => by simp only [evT]
      have hv : PE X (.UnaryOp .Not x pos) (rdV X G (evE n (.not a))) := by
        rw [e1]
        exact rd_congr (pv_of (pd_not o.K ha.kk)) fun ρ => by simp only [R.bind_assoc, R.ok_bind]
      have hk : PE X (.UnaryOp .Not x pos) (rdK X G (evT n (.not a))) := by
        have := pk_of hv
        rw [e1] at this
        rw [e2]
        have e3 : (fun ρ => (evT n a ρ >>= fun r => R.ok (Sl.im (.bool (!r.1)), r.2)) >>= fun r => truthC r.1.cn >>= fun c => R.ok (c, r.2)) = fun ρ => evT n a ρ >>= fun r => R.ok (!r.1, r.2) := funext fun ρ => by
          simp only [R.bind_assoc, R.ok_bind, Sl.cn, truthC, truthD]
        rw [← e3]
        exact this
      exact ⟨hv, by rw [e2]; exact pt_not' ha.tt, hk, fun z => by cases z⟩
    | _ => cases h
  | .ite t a b, n, k, c, X, o, e, h => by
    cases e with
    | IfExp x y z pos =>
      simp only [chkE, Bool.and_eq_true] at h
      have ht := snd_E t o h.1
      have ha := snd_E a o h.2.1
      have hb := snd_E b o h.2.2
      have e1 : evE n (.ite t a b) = fun ρ => evT n t ρ >>= fun r => if r.1 = true then evE n a r.2 else evE n b r.2 := funext fun ρ => by simp only [evE]
      have e2 : evT n (.ite t a b) = fun ρ => evT n t ρ >>= fun r => if r.1 = true then evT n a r.2 else evT n b r.2 := funext fun ρ => by simp only [evT]
      exact ⟨by rw [e1]; exact pv_ite ht.tt ha.v hb.v, by rw [e2]; exact pt_ite ht.tt ha.tt hb.tt, by rw [e2]; exact pk_ite ht.tt ha.kk hb.kk, fun z => by cases z⟩
    | _ => cases h
  | .idx (.e a) i, n, k, c, X, o, e, h => by
    cases e with
    | Subscript oo s pos =>
      simp only [chkE, chkR, Bool.and_eq_true] at h
      exact .ofD o (pd_idxE o.hu1 o.K (snd_E a o h.2.1).v (snd_E i o h.2.2).dat (plain_slice h.1)) (fun ρ => by simp only [evE, R.bind_assoc, R.ok_bind]) rfl (.inl rfl) rfl
    | _ => cases h
  | .idx (.s j) i, n, k, c, X, o, e, h => by
    cases e with
    | Subscript oo s pos =>
      simp only [chkE, chkR, Bool.and_eq_true] at h
      exact .ofD o (pd_idxS o.hu1 o.K (var_ok o h.2.1) (snd_E i o h.2.2).dat (plain_slice h.1)) (fun ρ => by simp only [evE, R.bind_assoc, R.ok_bind]) rfl (.inl rfl) rfl
    | _ => cases h
  | .slc (.e a) lo hi, n, k, c, X, o, e, h => by
    cases e with
    | Subscript oo s pos =>
      match s, h with
      | .Slice l u none p2, h =>
        simp only [chkE, chkR, Bool.and_eq_true] at h
        exact .ofV o (pv_slcE o.K (snd_E a o h.1).v (snd_O lo o h.2.1) (snd_O hi o h.2.2)) (fun ρ => by simp only [evE]) rfl (.inl rfl) rfl
    | _ => cases h
  | .slc (.s j) lo hi, n, k, c, X, o, e, h => by
    cases e with
    | Subscript oo s pos =>
      match s, h with
      | .Slice l u none p2, h =>
        simp only [chkE, chkR, Bool.and_eq_true] at h
        exact .ofV o (pv_slcS o.K (var_ok o h.1) (snd_O lo o h.2.1) (snd_O hi o h.2.2)) (fun ρ => by simp only [evE]) rfl (.inl rfl) rfl
    | _ => cases h
  | .len a, n, k, c, X, o, e, h => by
    cases e with
    | Call f es kws pos =>
      match f, es, kws, h with
      | .Name x p, [e], [], h =>
        simp only [chkE, Bool.and_eq_true] at h
        obtain ⟨⟨h1, h2⟩, h3⟩ := h
        obtain ⟨rfl, g1, g2⟩ := blt_ok o h1
        exact .ofV o (pv_callB o.K len_ok lenS_ne g1 g2 (by decide +kernel) (snd_R a o h3) (star_one h2) (by decide +kernel) (by decide +kernel)) (fun ρ => by simp only [evE, lenS, R.bind_assoc, R.ok_bind]) rfl (.inl rfl) rfl
    | _ => cases h
  | .cv kk a, n, k, c, X, o, e, h => by
    cases e with
    | Call f es kws pos =>
      match f, es, kws, h with
      | .Name x p, [e], [], h =>
        simp only [chkE, Bool.and_eq_true] at h
        obtain ⟨⟨h1, h2⟩, h3⟩ := h
        obtain ⟨rfl, g1, g2⟩ := blt_ok o h1
        have hr := snd_R a o h3
        refine .ofV (f := fun ρ => evR n a ρ >>= fun r => cvC kk r.1 >>= fun s => .ok (s, r.2)) o ?_ (fun ρ => by simp only [evE]) rfl (.inl rfl) rfl
        cases kk with
        | tup => exact pv_callTy (T := "tuple") o.K tuple_ok (cvC_ne .tup) g1 g2 (by decide +kernel) hr (star_one h2) (by decide +kernel) (by decide +kernel)
        | lst => exact pv_callTy (T := "list") o.K list_ok (cvC_ne .lst) g1 g2 (by decide +kernel) hr (star_one h2) (by decide +kernel) (by decide +kernel)
        | int => exact pv_callTy (T := "int") o.K int_ok (cvC_ne .int) g1 g2 (by decide +kernel) hr (star_one h2) (by decide +kernel) (by decide +kernel)
        | srt => exact pv_callB o.K (sorted_ok o.calm) (cvC_ne .srt) g1 g2 (by decide +kernel) hr (star_one h2) (by decide +kernel) (by decide +kernel)
    | _ => cases h
  | .isi a t, n, k, c, X, o, e, h => by
    cases e with
    | Call f es kws pos =>
      match f, es, kws, h with
      | .Name x p, [e, .Name y q], [], h =>
        simp only [chkE, Bool.and_eq_true] at h
        obtain ⟨⟨h1, h2, h3⟩, h4⟩ := h
        obtain ⟨e1, g1, g2⟩ := blt_ok o h1
        obtain ⟨e2, g3, g4⟩ := blt_ok o h2
        exact .ofD o (pd_isi o.K (snd_R a o h4) h3 e1 e2 g1 g2 g3 g4) (fun ρ => by simp only [evE, R.bind_assoc, R.ok_bind]) rfl (.inl rfl) rfl
    | _ => cases h
  | .get (.e a) kx, n, k, c, X, o, e, h => by
    cases e with
    | Call f es kws pos =>
      match f, es, kws, h with
      | .Attribute oo m apos, [e], [], h =>
        simp only [chkE, chkR, Bool.and_eq_true, decide_eq_true_eq] at h
        obtain ⟨⟨rfl, h1, h2, h3⟩, h4, h5⟩ := h
        exact .ofD o (pd_getE (m := Str.ofString "get") o.hu1 o.K (snd_E a o h4).v (snd_E kx o h5).dat (m1_of h1 h2 h3)) (fun ρ => by simp only [evE, R.bind_assoc, R.ok_bind, guardR_bind]) rfl (.inl rfl) rfl
    | _ => cases h
  | .get (.s j) kx, n, k, c, X, o, e, h => by
    cases e with
    | Call f es kws pos =>
      match f, es, kws, h with
      | .Attribute oo m apos, [e], [], h =>
        simp only [chkE, chkR, Bool.and_eq_true, decide_eq_true_eq] at h
        obtain ⟨⟨rfl, h1, h2, h3⟩, h4, h5⟩ := h
        exact .ofD o (pd_getS (m := Str.ofString "get") o.hu1 o.K (var_ok o h4) (snd_E kx o h5).dat (m1_of h1 h2 h3)) (fun ρ => by simp only [evE, R.bind_assoc, R.ok_bind, guardR_bind]) rfl (.inl rfl) rfl
    | _ => cases h
  | .get2 (.e a) kx d, n, k, c, X, o, e, h => by
    cases e with
    | Call f es kws pos =>
      match f, es, kws, h with
      | .Attribute oo m apos, [e, e2], [], h =>
        simp only [chkE, chkR, Bool.and_eq_true, decide_eq_true_eq] at h
        obtain ⟨⟨rfl, h1, ⟨h2, h3⟩, h6⟩, h4, h5, h7⟩ := h
        exact .ofD o (pd_get2E (m := Str.ofString "get") o.hu1 o.K (snd_E a o h4).v (snd_E kx o h5).dat (snd_E d o h7).dat (m2_of h1 h2 h3 h6)) (fun ρ => by simp only [evE, R.bind_assoc, R.ok_bind, guardR_bind]) rfl (.inl rfl) rfl
    | _ => cases h
  | .get2 (.s j) kx d, n, k, c, X, o, e, h => by
    cases e with
    | Call f es kws pos =>
      match f, es, kws, h with
      | .Attribute oo m apos, [e, e2], [], h =>
        simp only [chkE, chkR, Bool.and_eq_true, decide_eq_true_eq] at h
        obtain ⟨⟨rfl, h1, ⟨h2, h3⟩, h6⟩, h4, h5, h7⟩ := h
        exact .ofD o (pd_get2S (m := Str.ofString "get") o.hu1 o.K (var_ok o h4) (snd_E kx o h5).dat (snd_E d o h7).dat (m2_of h1 h2 h3 h6)) (fun ρ => by simp only [evE, R.bind_assoc, R.ok_bind, guardR_bind]) rfl (.inl rfl) rfl
    | _ => cases h
  | .call fi as, n, k, c, X, o, e, h => by
    cases e with
    | Call f es kws pos =>
      match f, es, kws, h with
      | .Name x p, e :: es, [], h =>
        simp only [chkE, Bool.and_eq_true, decide_eq_true_eq] at h
        obtain ⟨⟨⟨h1, h2⟩, h3, h4⟩, h5⟩ := h
        obtain ⟨g1, g2⟩ := isGl_ok o h2
        obtain ⟨f, fd, ps, d, m1, m2, m3, m4, m5, m6⟩ := o.m.fn x fi h1
        rw [h4] at m1
        have m1 := Option.some.inj m1
        exact .ofV o (pv_call (n := n) (i := fi) o.K (by rw [← o.K]; exact m6) o.room g1 m2 m3 m4 (snd_As as o h5) m5 m1 g2 h3) (fun ρ => by simp only [evE]; rfl) rfl (.inl rfl) rfl
    | _ => cases h
  | .lc elt p s t own, n, k, c, X, o, e, h => by
    cases e with
    | ListComp x gs sc pos =>
      match gs, h with
      | [⟨tg, it, ifs, 0⟩], h =>
        simp only [chkE, Bool.and_eq_true, decide_eq_true_eq] at h
        obtain ⟨⟨⟨h1, h2, h3⟩, h4, h5⟩, h6, h7, h8⟩ := h
        have hk := blk_kind h1
        have hp : LcP X G x tg ifs sc (ownP c own) p (evC n t) (fun ρ => datR (evE n elt ρ)) :=
          ⟨by rw [o.N, o.sc]; exact blkOk_by h1, fun s H C cl fp => (pt_ok (o.blk hk s H C cl fp) h5).1, fun s H C cl fp => snd_C t (o.blk hk s H C cl fp) h7, fun s H C cl fp => pe_nD (snd_E elt (o.blk hk s H C cl fp) h8).dat, by rw [h2]; exact mem_slots h3⟩
        have nd : notSet it = true := h4
        cases s with
        | it r => cases r with
          | s i => exact .ofB o (pv_lcS o.K o.calm o.nd (var_ok o h6) hp nd) (fun ρ => by simp only [evE, evSc, slotI, lcR, h2, Sc.locks, Rdo.locks]) rfl rfl
          | e a => exact .ofB o (pv_lc o.calm o.nd (snd_Sc (.it (.e a)) o h6) hp nd) (fun ρ => by simp only [evE, evScN, srcN, lcR, h2]) rfl rfl
        | rng1 a => exact .ofB o (pv_lc o.calm o.nd (snd_Sc (.rng1 a) o h6) hp nd) (fun ρ => by simp only [evE, evScN, srcN, lcR, h2]) rfl rfl
        | rng2 a b => exact .ofB o (pv_lc o.calm o.nd (snd_Sc (.rng2 a b) o h6) hp nd) (fun ρ => by simp only [evE, evScN, srcN, lcR, h2]) rfl rfl
        | enum a => exact .ofB o (pv_lc o.calm o.nd (snd_Sc (.enum a) o h6) hp nd) (fun ρ => by simp only [evE, evScN, srcN, lcR, h2]) rfl rfl
        | zip a b => exact .ofB o (pv_lc o.calm o.nd (snd_Sc (.zip a b) o h6) hp nd) (fun ρ => by simp only [evE, evScN, srcN, lcR, h2]) rfl rfl
    | _ => cases h
  | .lc2 elt p s t p2 s2 t2 own, n, k, c, X, o, e, h => by
    cases e with
    | ListComp x gs sc pos =>
      match gs, h with
      | [⟨tg, it, ifs, 0⟩, ⟨tg2, it2, ifs2, 0⟩], h =>
        simp only [chkE, Bool.and_eq_true, decide_eq_true_eq] at h
        obtain ⟨⟨⟨h1, h2, h3, h3'⟩, ⟨h4, h4'⟩, h5, h5'⟩, ⟨h6, h6'⟩, ⟨h7, h7'⟩, h8⟩ := h
        have hk := blk_kind h1
        have hp : LcP X G x tg ifs sc (ownP c own) p (evC n t) (fun ρ => datR (evE n elt ρ)) :=
          ⟨by rw [o.N, o.sc]; exact blkOk_by h1, fun s H C cl fp => (pt_ok (o.blk hk s H C cl fp) h5).1, fun s H C cl fp => snd_C t (o.blk hk s H C cl fp) h7, fun s H C cl fp => pe_nD (snd_E elt (o.blk hk s H C cl fp) h8).dat, by rw [h2]; exact mem_slots h3⟩
        have hp2 : LcP2 X G tg2 it2 ifs2 sc (ownP c own) p2 s2.locks (evScN n s2) (evC n t2) :=
          ⟨fun s H C cl fp => pi_nI (snd_Sc s2 (o.blk hk s H C cl fp) h6'), fun s H C cl fp => (pt_ok (o.blk hk s H C cl fp) h5').1, fun s H C cl fp => snd_C t2 (o.blk hk s H C cl fp) h7', by rw [h2]; exact mem_slots h3', h4'⟩
        have nd : notSet it = true := h4
        cases s with
        | it r => cases r with
          | s i => exact .ofB o (pv_lc2S o.K o.calm o.nd (var_ok o h6) hp hp2 nd) (fun ρ => by simp only [evE, evSc, h2]; rfl) rfl rfl
          | e a => exact .ofB o (pv_lc2 o.calm o.nd (snd_Sc (.it (.e a)) o h6) hp hp2 nd) (fun ρ => by simp only [evE, evScN, lc2R, innerR, h2] <;> rfl) rfl rfl
        | rng1 a => exact .ofB o (pv_lc2 o.calm o.nd (snd_Sc (.rng1 a) o h6) hp hp2 nd) (fun ρ => by simp only [evE, evScN, lc2R, innerR, h2] <;> rfl) rfl rfl
        | rng2 a b => exact .ofB o (pv_lc2 o.calm o.nd (snd_Sc (.rng2 a b) o h6) hp hp2 nd) (fun ρ => by simp only [evE, evScN, lc2R, innerR, h2] <;> rfl) rfl rfl
        | enum a => exact .ofB o (pv_lc2 o.calm o.nd (snd_Sc (.enum a) o h6) hp hp2 nd) (fun ρ => by simp only [evE, evScN, lc2R, innerR, h2] <;> rfl) rfl rfl
        | zip a b => exact .ofB o (pv_lc2 o.calm o.nd (snd_Sc (.zip a b) o h6) hp hp2 nd) (fun ρ => by simp only [evE, evScN, lc2R, innerR, h2] <;> rfl) rfl rfl
    | _ => cases h
  | .dc ek ev p s t own, n, k, c, X, o, e, h => by
    cases e with
    | DictComp kx vx gs sc pos =>
      match gs, h with
      | [⟨tg, it, ifs, 0⟩], h =>
        simp only [chkE, Bool.and_eq_true, decide_eq_true_eq] at h
        obtain ⟨⟨⟨h1, h2, h3⟩, h4, h5⟩, h6, h7, h8, h9⟩ := h
        have hk := blk_kind h1
        have hp : DcP X G kx vx tg ifs sc (ownP c own) p (evC n t) (fun ρ => datR (evE n ek ρ)) (fun ρ => datR (evE n ev ρ)) :=
          ⟨by rw [o.N, o.sc]; exact blkOk_by h1, fun s H C cl fp => (pt_ok (o.blk hk s H C cl fp) h5).1, fun s H C cl fp => snd_C t (o.blk hk s H C cl fp) h7, fun s H C cl fp => pe_nD (snd_E ek (o.blk hk s H C cl fp) h8).dat, fun s H C cl fp => pe_nD (snd_E ev (o.blk hk s H C cl fp) h9).dat, by rw [h2]; exact mem_slots h3⟩
        exact .ofB o (pv_dc o.calm o.nd (snd_Sc s o h6) hp h4) (fun ρ => by simp only [evE, h2]; rfl) rfl rfl
    | _ => cases h
  | .gen kk elt p s t own, n, k, c, X, o, e, h => by
    cases e with
    | Call f es kws pos =>
      match f, es, kws, h with
      | .Name x q, [.GeneratorExp x2 [⟨tg, it, ifs, 0⟩] sc gpos], [], h =>
        simp only [chkE, Bool.and_eq_true, decide_eq_true_eq] at h
        obtain ⟨⟨⟨⟨h0, h03⟩, h01, h02⟩, ⟨h1, h2, h3⟩, h4, h5⟩, h6, h7, h8⟩ := h
        have hk := blk_kind h1
        obtain ⟨g1, g2, g3⟩ := genSc_ok h02
        obtain ⟨tab, j, rfl, m⟩ := o.gen h0
        obtain ⟨e1, b1, b2⟩ := blt_ok o h01
        subst e1
        have oo := fun sc' H3 genv fp A a go hr hs => o.sg (j := j) hk g1 m sc' H3 genv fp A a go hr hs
        have hp : GxP X G (j + 1) x2 tg it ifs sc (ownP c own) p (evC (dnC n) t) (fun ρ => datR (evE (dnC n) elt ρ)) :=
          ⟨⟨by rw [o.N, o.sc]; exact blkOk_by h1, g1, g2, g3⟩, by rw [h2]; exact mem_slots h3, genFold_ok h4 X.env, tab, fun sc' H3 genv fp A a go hr hs =>
            ⟨(pt_ok (oo sc' H3 genv fp A a go hr hs) h5).1, snd_C t (oo sc' H3 genv fp A a go hr hs) h7, pe_nD (snd_E elt (oo sc' H3 genv fp A a go hr hs) h8).dat⟩⟩
        have pg := pgen_gx (E := XK0) (pos := gpos) o.nd o.calm o.room.depth (snd_Sc s o h6) hp
        cases kk with
        | tup => exact .ofV o (pv_tupX (Room.mono o.room (by omega)) b1 b2 rfl pg) (fun ρ => by simp only [evE, evScN, gxR, h2, R.bind_assoc, guardR_bind, R.ok_bind]) rfl (.inl rfl) rfl
        | srt => exact .ofV o (pv_srtX (Room.mono o.room (by omega)) b1 b2 rfl o.K pg) (fun ρ => by simp only [evE, evScN, gxR, h2, R.bind_assoc, guardR_bind, R.ok_bind]) rfl (.inl rfl) rfl
        | any => cases h03
        | all => cases h03
        | sum => cases h03
    | _ => cases h
  | .dsp0, n, k, c, X, o, e, h => by
    cases e with
    | Dict ks vs pos =>
      match ks, vs, h with
      | [], [], h => exact .ofV o pv_dsp0 (fun ρ => by simp only [evE]) rfl (.inl rfl) rfl
    | _ => cases h
  | .pop _, n, k, c, X, o, e, h => by cases e <;> cases h
theorem snd_Es : ∀ (as : Es) {n : Calls} {k : Nat} {c : Sx} {X : Cx} (o : XOk M c G n k X) {es : List Expr}, chkEs M c as es = true → PA X es (rdL X G (evEs n as))
  | .nil, n, k, c, X, o, [], _ => by
    have : evEs n .nil = fun ρ => .ok ([], ρ) := funext fun ρ => by simp only [evEs]
    rw [this]; exact pl_nil
  | .nil, n, k, c, X, o, _ :: _, h => by cases h
  | .cons a as, n, k, c, X, o, [], h => by cases h
  | .cons a as, n, k, c, X, o, e :: es, h => by
    simp only [chkEs, Bool.and_eq_true] at h
    have : evEs n (.cons a as) = fun ρ => datR (evE n a ρ) >>= fun r => evEs n as r.2 >>= fun rs => .ok (r.1 :: rs.1, rs.2) := funext fun ρ => by simp only [evEs]
    rw [this]
    exact pl_cons (snd_E a o h.2.1).dat (snd_Es as o h.2.2) (star_one h.1)
theorem snd_O : ∀ (a : Eo) {n : Calls} {k : Nat} {c : Sx} {X : Cx} (o : XOk M c G n k X) {e : Option Expr}, chkO M c a e = true → PO X e (rdO X G (evO n a))
  | .no, n, k, c, X, o, none, _ => po_congr po_no fun ρ => by simp only [evO]
  | .no, n, k, c, X, o, some _, h => by cases h
  | .so a, n, k, c, X, o, none, h => by cases h
  | .so a, n, k, c, X, o, some e, h => by
    have h : chkE M c a e = true := h
    refine po_congr (po_so (snd_E a o h).dat) fun ρ => ?_
    simp only [evO]
    try rfl
theorem snd_C : ∀ (a : Eo) {n : Calls} {k : Nat} {c : Sx} {X : Cx} (o : XOk M c G n k X) {es : List Expr}, chkC M c a es = true → PTs X es (nT G (evC n a))
  | .no, n, k, c, X, o, [], _ => by
    have : evC n .no = fun ρ => .ok (true, ρ) := funext fun ρ => by simp only [evC]
    rw [this]; exact pt_nil
  | .no, n, k, c, X, o, _ :: _, h => by cases h
  | .so a, n, k, c, X, o, [], h => by cases h
  | .so a, n, k, c, X, o, [e], h => by
    have h : chkE M c a e = true := h
    have : evC n (.so a) = evT n a := funext fun ρ => by simp only [evC]
    rw [this]; exact pt_nT (snd_E a o h).tt
  | .so a, n, k, c, X, o, _ :: _ :: _, h => by cases h
theorem snd_R : ∀ (a : Rdo) {n : Calls} {k : Nat} {c : Sx} {X : Cx} (o : XOk M c G n k X) {e : Expr}, chkR M c a e = true → PE X e (rdC X G (evR n a))
  | .e a, n, k, c, X, o, e, h => by
    have h : chkE M c a e = true := h
    exact pc_congr (snd_E a o h).cn fun ρ => by simp only [evR]
  | .s i, n, k, c, X, o, e, h => by
    have h : chkV c i e = true := h
    exact pc_congr (pc_slot (var_ok o h)) fun ρ => by simp only [evR]
theorem snd_As : ∀ (as : As) {n : Calls} {k : Nat} {c : Sx} {X : Cx} (o : XOk M c G n k X) {es : List Expr}, chkAs M c as es = true → PA X es (rdA X G as (evAs n as))
  | .nil, n, k, c, X, o, [], _ => evAs_congr pr_nil fun ρ => by simp only [evAs]
  | .nil, n, k, c, X, o, _ :: _, h => by cases h
  | .e a as, n, k, c, X, o, [], h => by cases h
  | .e a as, n, k, c, X, o, e :: es, h => by
    simp only [chkAs, Bool.and_eq_true] at h
    exact evAs_congr (pr_e (snd_E a o h.2.1).v (snd_As as o h.2.2) h.1) fun ρ => by simp only [evAs]
  | .bor i as, n, k, c, X, o, [], h => by cases h
  | .bor i as, n, k, c, X, o, e :: es, h => by
    simp only [chkAs, Bool.and_eq_true] at h
    obtain ⟨x, p, rfl⟩ := chkV_name h.1
    exact evAs_congr (pr_slot (var_ok o h.1) (snd_As as o h.2) rfl _ (.inl rfl)) fun ρ => by simp only [evAs]
  | .chg i as, n, k, c, X, o, [], h => by cases h
  | .chg i as, n, k, c, X, o, e :: es, h => by
    simp only [chkAs, Bool.and_eq_true] at h
    obtain ⟨x, p, rfl⟩ := chkV_name h.1
    exact evAs_congr (pr_slot (var_ok o h.1) (snd_As as o h.2) rfl _ (.inr rfl)) fun ρ => by simp only [evAs]
theorem snd_Sc : ∀ (s : Sc) {n : Calls} {k : Nat} {c : Sx} {X : Cx} (o : XOk M c G n k X) {tg it : Expr}, chkSc M c s it = true → PI X tg it (rdI X G s.locks (evScN n s))
  | .it (.e a), n, k, c, X, o, tg, it, h => by
    have h : chkE M c a it = true := h
    exact pi_congr (pi_itE o.K (snd_E a o h).v) fun ρ => by simp only [evScN, srcN, evSc]
  | .it (.s i), n, k, c, X, o, tg, it, h => by
    have h : chkV c i it = true := h
    exact pi_congr (pi_itS o.K (var_ok o h)) fun ρ => by simp only [evScN, srcN]
  | .rng1 a, n, k, c, X, o, tg, it, h => by
    cases it with
    | Call f es kws pos =>
      match f, es, kws, h with
      | .Name x p, [e], [], h =>
        simp only [chkSc, Bool.and_eq_true] at h
        obtain ⟨⟨h1, h2⟩, h3⟩ := h
        obtain ⟨rfl, g1, g2⟩ := blt_ok o h1
        refine pi_congr (pi_rng1 g1 g2 (snd_E a o h3).dat h2) fun ρ => ?_
        simp only [evScN, srcN, evSc]
        try rfl
    | _ => cases h
  | .rng2 a b, n, k, c, X, o, tg, it, h => by
    cases it with
    | Call f es kws pos =>
      match f, es, kws, h with
      | .Name x p, [e, e2], [], h =>
        simp only [chkSc, Bool.and_eq_true] at h
        obtain ⟨⟨h1, h2, h2'⟩, h3, h4⟩ := h
        obtain ⟨rfl, g1, g2⟩ := blt_ok o h1
        refine pi_congr (pi_rng2 g1 g2 (snd_E a o h3).dat (snd_E b o h4).dat h2 h2') fun ρ => ?_
        simp only [evScN, srcN, evSc]
        try rfl
    | _ => cases h
  | .enum a, n, k, c, X, o, tg, it, h => by cases it <;> cases h
  | .zip a b, n, k, c, X, o, tg, it, h => by cases it <;> cases h
end
end
end Wk

set_option Elab.async false
set_option linter.all false
set_option maxRecDepth 100000
set_option maxHeartbeats 8000000
/-! the check tells the truth: statements, defs, a program -/
namespace Wk
open PySem PySem.Spec PyProof.Rows L2

section
variable {M : Mx} {G : Gh} {n : Calls} {k : Nat} {X : Cx} {c : Sx}
theorem py_congr {st : Stmt} {f g : Sv → Out} (h : PS X st (rdY X G f)) (q : ∀ ρ, g ρ = f ρ) : PS X st (rdY X G g) := by
  have : g = f := funext q
  rw [this]; exact h
theorem swB_ok (o : XOk M c G n k X) {x : Str} {p : Pos} {e : Expr} {b : Bool} {l : Nat} (h : swB c x p e = some b) : swapsWith e (some (.Name x p)) l X.env = pure b := by
  have hb : X.env.blockKind = .function := by unfold Env.blockKind; rw [o.kind]; rfl
  have hk : X.env.kindOf x = c.sc.names.lookup x := by show X.env.scope.names.lookup x = _; rw [o.sc]
  cases e with
  | ListComp a gs s q =>
    cases h
    unfold swapsWith
    simp only [hb, hk, Expr.pos]
    by_cases e1 : c.sc.names.lookup x = some .local
    · simp [e1]
    · have e2 : (c.sc.names.lookup x == some NameKind.local) = false := by
        cases e3 : c.sc.names.lookup x with
        | none => rfl
        | some q => cases q <;> first | rfl | exact absurd e3 e1
      simp [e1, e2]
  | DictComp a v gs s q =>
    cases h
    unfold swapsWith
    simp only [hb, hk, Expr.pos]
    by_cases e1 : c.sc.names.lookup x = some .local
    · simp [e1]
    · have e2 : (c.sc.names.lookup x == some NameKind.local) = false := by
        cases e3 : c.sc.names.lookup x with
        | none => rfl
        | some q => cases q <;> first | rfl | exact absurd e3 e1
      simp [e1, e2]
  | SetComp => cases h
  | _ => cases h; rfl
theorem swN_ok {e : Expr} {l : Nat} {env : PySem.Env} (h : notComp e = true) : swapsWith e none l env = pure false := by
  cases e <;> first | rfl | cases h
theorem sst_none {es : List Expr} {kk : Nat} {p : Pos} {e : Expr} {env : PySem.Env} (h : notTup e = true) : swappedStores [.Tuple es kk p] e env = pure none := by
  cases e <;> first | rfl | cases h
theorem isEmptyPt {c : Sx} {i : Nat} {x : Str} {p : Pos} (h : chkPt c (.v i) (.Name x p) = true) : c.N[i]? = some x ∧ kLoc (c.sc.names.lookup x) = true ∧ (c.fn x = true ∨ c.sc.names.lookup x = some .local) := by
  simp only [chkPt, Bool.and_eq_true, Bool.or_eq_true, decide_eq_true_eq] at h
  exact h
mutual
theorem snd_S (fu : Nat) (o : XOk M c G n k X) (hp : PassesOwn (model X.prog X.w) X.A X.env X.xe) : ∀ (s : S) {st : Stmt}, chkS M c s st = true → PS X st (rdY X G (evS n fu s))
  | .asg (.v i) a, st, h => by
    cases st with
    | Assign tgs e pos =>
      match tgs, h with
      | [.Name x p], h =>
        simp only [chkS, Bool.and_eq_true] at h
        obtain ⟨⟨h1, h2⟩, h3⟩ := h
        obtain ⟨g1, g2, g3⟩ := isEmptyPt h1
        have se := snd_E a o h3
        cases hb : swB c x p e with
        | none => rw [hb] at h2; cases h2
        | some b =>
          have sw := fun l => swB_ok (l := l) o hb
          cases b with
          | false =>
            refine py_congr (psn_set o.nd (by rw [o.N]; exact g1) (loc_ok o g2) ?_ se.v (sw _)) fun ρ => by simp only [evS]
            rcases g3 with g3 | g3
            · exact .inl (o.fn x g3)
            · exact .inr (by rw [o.sc]; exact g3)
          | true =>
            have hc : notComp e = false := by
              unfold swB at hb
              cases e <;> first | rfl | cases hb
            have hl : c.sc.names.lookup x = some .local := by
              unfold swB at hb
              cases e <;> first | cases hb | (have hb := Option.some.inj hb; rw [Bool.and_eq_true] at hb; exact of_decide_eq_true hb.1)
            exact py_congr (psn_setB (by rw [o.N]; exact g1) (by rw [o.sc]; exact hl) (se.u hc) (sw _)) fun ρ => by simp only [evS]
    | _ => cases h
  | .asg (.t ps) a, st, h => by
    cases st with
    | Assign tgs e pos =>
      match tgs, h with
      | [.Tuple es kk p], h =>
        simp only [chkS, Bool.and_eq_true] at h
        obtain ⟨⟨h1, h2⟩, h3⟩ := h
        exact py_congr (psn_tup (snd_E a o h3).v (pt_ok o h1).1 (sst_none h2)) fun ρ => by simp only [evS]
    | _ => cases h
  | .aug i op a, st, h => by
    cases st with
    | AugAssign tg oo e pos =>
      match tg, h with
      | .Name x p, h =>
        simp only [chkS, Bool.and_eq_true, Bool.or_eq_true, decide_eq_true_eq] at h
        obtain ⟨⟨h1, rfl, h2⟩, h3⟩ := h
        obtain ⟨g1, g2, g3⟩ := isEmptyPt h1
        refine py_congr (psn_aug o.nd (by rw [o.N]; exact g1) (loc_ok o g2) ?_ (snd_E a o h3).dat h2) fun ρ => by simp only [evS]
        rcases g3 with g3 | g3
        · exact .inl (o.fn x g3)
        · exact .inr (by rw [o.sc]; exact g3)
    | _ => cases h
  | .app i a, st, h => by
    cases st with
    | Expr v pos =>
      match v, h with
      | .Call (.Attribute oo m apos) [e] [] cpos, h =>
        simp only [chkS, Bool.and_eq_true, decide_eq_true_eq] at h
        obtain ⟨⟨⟨rfl, h1⟩, h2, h3⟩, h4, h5⟩ := h
        exact py_congr (psn_app o.K (var_ok o h4) (snd_E a o h5).dat h1 h2 h3) fun ρ => by simp only [evS]
    | _ => cases h
  | .ext _ _, st, h => by cases st <;> cases h
  | .sti i kx a, st, h => by
    cases st with
    | Assign tgs e pos =>
      match tgs, h with
      | [.Subscript oo s p], h =>
        simp only [chkS, Bool.and_eq_true] at h
        obtain ⟨h1, h2, h3, h4⟩ := h
        exact py_congr (psn_sti o.hu1 o.K (var_ok o h2) (snd_E kx o h3).dat (snd_E a o h4).dat h1) fun ρ => by simp only [evS]
    | _ => cases h
  | .ex a, st, h => by
    cases st with
    | Expr e pos =>
      simp only [chkS, Bool.and_eq_true] at h
      exact py_congr (psn_expr (snd_E a o h.2).v (swN_ok h.1)) fun ρ => by simp only [evS]
    | _ => cases h
  | .iff t a b, st, h => by
    cases st with
    | If x y z pos =>
      simp only [chkS, Bool.and_eq_true] at h
      exact py_congr (psn_if (snd_E t o h.1).tt (snd_Ss fu o hp a h.2.1) (snd_Ss fu o hp b h.2.2)) fun ρ => by simp only [evS]
    | _ => cases h
  | .whl t b, st, h => by
    cases st with
    | While x y z pos =>
      match z, h with
      | [], h =>
        simp only [chkS, Bool.and_eq_true] at h
        exact py_congr (psn_while fu hp (snd_E t o h.1).tt (snd_Ss fu o hp b h.2)) fun ρ => by simp only [evS]
    | _ => cases h
  | .for p s b, st, h => by
    cases st with
    | For tg it y z pos =>
      match z, h with
      | [], h =>
        simp only [chkS, Bool.and_eq_true] at h
        obtain ⟨⟨h1, h2⟩, h3, h4⟩ := h
        exact py_congr (psn_for hp o.calm (snd_Sc s o h3) (pt_ok o h2).1 (snd_Ss fu o hp b h4) h1) fun ρ => by simp only [evS]
    | _ => cases h
  | .ret a, st, h => by
    cases st with
    | Return v pos =>
      match v, h with
      | some e, h =>
        have h : chkE M c a e = true := h
        exact py_congr (psn_ret (snd_E a o h).v) fun ρ => by simp only [evS]
    | _ => cases h
  | .ret0, st, h => by
    cases st with
    | Return v pos =>
      match v, h with
      | none, h => exact py_congr psn_retN fun ρ => by simp only [evS]
    | _ => cases h
  | .brk, st, h => by
    cases st with
    | Break pos => exact py_congr psn_break fun ρ => by simp only [evS]
    | _ => cases h
  | .cnt, st, h => by
    cases st with
    | Continue pos => exact py_congr psn_continue fun ρ => by simp only [evS]
    | _ => cases h
  | .pas, st, h => by
    cases st with
    | Pass pos => exact py_congr psn_pass fun ρ => by simp only [evS]
    | _ => cases h
theorem snd_Ss (fu : Nat) (o : XOk M c G n k X) (hp : PassesOwn (model X.prog X.w) X.A X.env X.xe) : ∀ (ss : Ss) {sts : List Stmt}, chkSs M c ss sts = true → PSs X sts (rdY X G (evSs n fu ss))
  | .nil, [], _ => by
    have : evSs n fu .nil = .nx := funext fun ρ => by simp only [evSs]
    rw [this]; exact psn_nil
  | .nil, _ :: _, h => by cases h
  | .cons s ss, [], h => by cases h
  | .cons s ss, st :: sts, h => by
    simp only [chkSs, Bool.and_eq_true] at h
    have : evSs n fu (.cons s ss) = fun ρ => (evS n fu s ρ).bind (evSs n fu ss) := funext fun ρ => by simp only [evSs]
    rw [this]
    exact psn_cons (snd_S fu o hp s h.1) (snd_Ss fu o hp ss h.2)
end
end

/-! ### a def -/
theorem finals_ok {K : PySem.W.Frag} {H' : Hp} {ρ' : Sv} : ∀ {ss : List Sl} {vs : List V} {i : Nat} {cs : List Ct}, ss.length = vs.length → (∀ j c c' v, ss[j]? = some (.chg c) → vs[j]? = some v → ρ'[i + j]? = some (some (.chg c')) → ∃ a, v = .ref a ∧ CtAt K H' a c') → finals ρ' i ss = .ok cs → FinOk K H' vs ss cs
  | [], [], i, cs, _, _, h => by cases h; trivial
  | [], _ :: _, _, _, hl, _, _ => by simp at hl
  | _ :: _, [], _, _, hl, _, _ => by simp at hl
  | s :: ss, v :: vs, i, cs, hl, hc, h => by
    have hl' : ss.length = vs.length := by simpa using hl
    have hc' : ∀ j c c' v, ss[j]? = some (.chg c) → vs[j]? = some v → ρ'[(i + 1) + j]? = some (some (.chg c')) → ∃ a, v = .ref a ∧ CtAt K H' a c' := fun j c c' v h1 h2 h3 =>
      hc (j + 1) c c' v (by simpa using h1) (by simpa using h2) (by rw [show i + (j + 1) = (i + 1) + j by omega]; exact h3)
    cases s with
    | im d =>
      have q : FinOk K H' vs ss cs := finals_ok (i := i + 1) hl' hc' h
      cases cs <;> exact q
    | own c =>
      have q : FinOk K H' vs ss cs := finals_ok (i := i + 1) hl' hc' h
      cases cs <;> exact q
    | bor c =>
      have q : FinOk K H' vs ss cs := finals_ok (i := i + 1) hl' hc' h
      cases cs <;> exact q
    | chg c =>
      have h : (match ρ'[i]? with
        | some (some (.chg c)) => finals ρ' (i + 1) ss >>= fun cs => R.ok (c :: cs)
        | _ => .bad) = .ok cs := h
      split at h
      · rename_i c' e
        obtain ⟨cs', h1, rfl⟩ := R.map_ok h
        exact ⟨hc 0 c c' v rfl rfl e, finals_ok (i := i + 1) hl' hc' h1⟩
      · cases h
structure Df where
  x : Str
  qual : Str
  st : Stmt
  N : List Str
  ps : List Str
  body : Ss
def Df.fd (d : Df) : Fd := ⟨d.ps.length, d.N.length, d.body⟩
def scopeB (N P : List Str) (sc : Scope) : Bool :=
  ((match sc.kind with | .function => true | _ => false) && (!sc.isCoroutine && !sc.isGenerator)) && ((decide N.Nodup && decide (N.take P.length = P)) && ((P.all fun x => kLoc (sc.names.lookup x)) && sc.names.all fun y => match y.2 with | .free => false | _ => true))
theorem scopeB_ok {N P : List Str} {sc : Scope} (h : scopeB N P sc = true) : FnScope N P sc := by
  simp only [scopeB, Bool.and_eq_true, Bool.not_eq_true', decide_eq_true_eq] at h
  obtain ⟨⟨h1, h2, h3⟩, ⟨h4, h5⟩, h6, h7⟩ := h
  refine ⟨?_, h2, h3, h4, h5, fun x hx => ?_, fun y hy e => ?_⟩
  · split at h1
    · assumption
    · cases h1
  · have q := List.all_eq_true.mp h6 x hx
    cases e : sc.names.lookup x with
    | none => rw [e] at q; cases q
    | some kk => cases kk with
      | «local» => exact .inl rfl
      | cell => exact .inr rfl
      | free => rw [e] at q; cases q
      | globalExplicit => rw [e] at q; cases q
      | globalImplicit => rw [e] at q; cases q
  · have q := List.all_eq_true.mp h7 y hy
    rw [e] at q
    cases q
def Df.chk (M : Mx) (d : Df) : Bool := scopeB d.N d.ps (defScope d.st) && chkSs M ⟨d.N, defScope d.st, none, true⟩ d.body (defBody d.st)
section
variable {P : Program} {w : World} {K : PySem.W.Frag} {mg : Str → Option Value} {base : Heap} {T : List Addr} {ec : Nat → Option (Addr × List Str)} {M : Mx} {fds : List Fd} {fu k : Nat}
/-- a def keeps its promise, where what it calls does -/
theorem def_ok {d : Df} {i : Nat} {f : Addr} {fdd : FuncData} (hi : fds[i]? = some d.fd) (F : Fun K d.x d.qual d.st f fdd) (hc : d.chk M = true) {L : Nat} (ih : MOk M P w K mg base T ec (callN fds fu k) (L + 8)) (ihg : MOk M P w K mg base T ec (dnC (callN fds fu k)) L)
    (tab : ∃ cc Q, fdd.code = .ref cc ∧ GxR.TabB base mg cc Q ∧ Q ∈ T) :
    FnOk P w K mg base (L2.CX P w) (L + 16) f fdd d.ps (spF K T ec (callN fds fu (k + 1)) d.fd i) := by
  unfold Df.chk at hc
  obtain ⟨h1, h2⟩ := Bool.and_eq_true_iff.mp hc
  have S := scopeB_ok h1
  have hpl : d.ps.length ≤ d.N.length := by have := congrArg List.length S.pre; rw [List.length_take] at this; omega
  obtain ⟨oc, od, kV, doc, pm, an, cdv, ct, osl, rfl, lk, hcd⟩ := F.ex
  obtain ⟨cc, tQ, hcode, hTB, hQT⟩ := tab
  have hcode : cdv = .ref cc := hcode
  refine fn_of (k := L + 15) lk hcd S (fun vs H Q E h => h.1) fun A outer s H vs Q E hr hsp => ?_
  obtain ⟨hv, ss, hs, rp, hm⟩ := hsp
  have hv : vs.length = d.ps.length := hv
  have hs : ss.length = d.ps.length := hs
  let X := cxOf (L2.CX P w) P w K mg base d.N d.qual (defScope d.st) f cdv A outer s H E
  let G := callG K T ec ss vs H
  have o : XOk M ⟨d.N, defScope d.st, none, true⟩ G (callN fds fu k) (L + 8) X := ⟨rfl, rfl, S.nd, rfl, S.kind, fun _ _ => rfl, rfl, hr.mono (by omega), ih, fun _ => ⟨⟨cc, tQ, hTB, hcode, hQT⟩, L, rfl, ihg⟩⟩
  have tk : Takes X (fun cls dd _ H => E cls dd H) := takes_of rfl rfl rfl rfl
  have hp : PassesOwn (model X.prog X.w) X.A X.env X.xe := passes_of rfl
  refine ⟨_, snd_Ss fu o hp d.body h2, startS d.fd ss, ?_⟩
  have e0 : L2.start d.N vs = st0 d.fd vs := by unfold L2.start st0 Df.fd; rw [hv]
  rw [e0]
  refine ⟨rp, ?_⟩
  -- what the body gives is what is wanted
  have ec : callN fds fu (k + 1) i ss = outCall ss (evSs (callN fds fu k) fu d.body (startS d.fd ss)) := by
    unfold callN
    rw [hi]
    show guardR (decide (ss.length = d.ps.length)) _ = _
    rw [decide_eq_true hs]
    rfl
  rw [ec] at hm
  have fin : ∀ {σ' : L2.St} {ρ' : Sv} {H' : Hp} {cs : List Ct}, StpS G (st0 d.fd vs) (startS d.fd ss) H σ' ρ' H' → finals ρ' 0 ss = .ok cs → FinOk K H' vs ss cs := fun {σ' ρ' H' cs} st h =>
    finals_ok (by rw [hs, hv]) (fun j c c' v h1 h2 h3 => by
      rw [Nat.zero_add] at h3
      obtain ⟨_, q2⟩ := st.fixc j c' h3
      obtain ⟨u, hu, a, rfl, hc, _⟩ := st.rp.slot j _ h3
      rw [q2] at hu
      have hu' : (st0 d.fd vs)[j]? = some (some v) := start_put h2
      rw [hu'] at hu
      cases hu
      exact ⟨a, rfl, hc⟩) h
  cases eo : evSs (callN fds fu k) fu d.body (startS d.fd ss) with
  | bad => rw [eo] at hm; exact False.elim hm
  | brk ρ' => rw [eo] at hm; exact False.elim hm
  | cnt ρ' => rw [eo] at hm; exact False.elim hm
  | exc x ρ' =>
    rw [eo] at hm
    exact Takes.imp tk fun cls dd σ' H' ⟨h1, st⟩ => hm cls dd H' ⟨st.rp.ext, st.rp.tabs⟩ h1
  | nx ρ' =>
    rw [eo] at hm
    intro σ' H' st
    have hm : match (finals ρ' 0 ss >>= fun cs => R.ok (Sl.im .none, cs)) with
      | .ok (s, cs) => ∀ v H', After G H' → RetOk G H' v s → FinOk K H' vs ss cs → Q v H'
      | .exc x _ => ∀ cls dd H', After G H' → ExIs G x cls dd H' → E cls dd H'
      | .bad => False := hm
    cases ef : finals ρ' 0 ss with
    | bad => rw [ef] at hm; exact False.elim hm
    | exc y ρ2 => exact absurd ef (by
        have : ∀ (ss : List Sl) (i : Nat), finals ρ' i ss ≠ .exc y ρ2 := by
          intro ss
          induction ss with
          | nil => intro i z; cases z
          | cons s ss ih =>
            intro i z
            cases s with
            | im d => exact ih (i + 1) z
            | own c => exact ih (i + 1) z
            | bor c => exact ih (i + 1) z
            | chg c =>
              have z : (match ρ'[i]? with
                | some (some (.chg c)) => finals ρ' (i + 1) ss >>= fun cs => R.ok (c :: cs)
                | _ => .bad) = .exc y ρ2 := z
              split at z
              · cases e2 : finals ρ' (i + 1) ss with
                | ok cs => rw [e2] at z; cases z
                | bad => rw [e2] at z; cases z
                | exc y2 ρ3 => rw [e2] at z; cases z; exact ih (i + 1) e2
              · cases z
        exact this ss 0)
    | ok cs =>
      rw [ef] at hm
      exact hm .non H' ⟨st.rp.ext, st.rp.tabs⟩ .non (fin st ef)
  | ret s ρ' =>
    rw [eo] at hm
    intro v σ' H' st ret
    have hm : match (finals ρ' 0 ss >>= fun cs => R.ok (s, cs)) with
      | .ok (s, cs) => ∀ v H', After G H' → RetOk G H' v s → FinOk K H' vs ss cs → Q v H'
      | .exc x _ => ∀ cls dd H', After G H' → ExIs G x cls dd H' → E cls dd H'
      | .bad => False := hm
    cases ef : finals ρ' 0 ss with
    | bad => rw [ef] at hm; exact False.elim hm
    | exc y ρ2 => exact absurd ef (by
        have : ∀ (ss : List Sl) (i : Nat), finals ρ' i ss ≠ .exc y ρ2 := by
          intro ss
          induction ss with
          | nil => intro i z; cases z
          | cons s ss ih =>
            intro i z
            cases s with
            | im d => exact ih (i + 1) z
            | own c => exact ih (i + 1) z
            | bor c => exact ih (i + 1) z
            | chg c =>
              have z : (match ρ'[i]? with
                | some (some (.chg c)) => finals ρ' (i + 1) ss >>= fun cs => R.ok (c :: cs)
                | _ => .bad) = .exc y ρ2 := z
              split at z
              · cases e2 : finals ρ' (i + 1) ss with
                | ok cs => rw [e2] at z; cases z
                | bad => rw [e2] at z; cases z
                | exc y2 ρ3 => rw [e2] at z; cases z; exact ih (i + 1) e2
              · cases z
        exact this ss 0)
    | ok cs =>
      rw [ef] at hm
      exact hm v H' ⟨st.rp.ext, st.rp.tabs⟩ ret (fin st ef)
end

/-! ### a program -/
def namesFrom : Nat → List Df → List (Str × Nat)
  | _, [] => []
  | i, d :: ds => (d.x, i) :: namesFrom (i + 1) ds
theorem names_look {x : Str} {i : Nat} : ∀ {ds : List Df} {j : Nat}, (namesFrom j ds).lookup x = some i → ∃ m d, i = j + m ∧ ds[m]? = some d ∧ d.x = x
  | [], _, h => by cases h
  | d :: ds, j, h => by
    unfold namesFrom at h
    rw [List.lookup_cons] at h
    split at h
    · rename_i e
      cases h
      exact ⟨0, d, rfl, rfl, (beq_iff_eq.mp e).symm⟩
    · obtain ⟨m, d', h1, h2, h3⟩ := names_look h
      exact ⟨m + 1, d', by omega, h2, h3⟩
def mkM (ds : List Df) (gls : List (Str × D)) (free : List Str) : Mx := ⟨namesFrom 0 ds, ds.map fun d => d.ps.length, gls, free⟩
section
variable {P : Program} {w : World} {K : PySem.W.Frag} {mg : Str → Option Value} {base : Heap} {T : List Addr} {ec : Nat → Option (Addr × List Str)} {ds : List Df} {gls : List (Str × D)} {free : List Str}
/-- the program's facts behind the top of the text; cs: code objects and their tables -/
structure PFacts (K : PySem.W.Frag) (mg : Str → Option Value) (cs : List (Addr × Addr)) (ds : List Df) (gls : List (Str × D)) (free : List Str) : Prop where
  fn : ∀ (i : Nat) (d : Df), ds[i]? = some d → ∃ (f : Addr) (fdd : FuncData), Fun K d.x d.qual d.st f fdd ∧ mg d.x = some (.ref f) ∧ Binds K fdd d.ps [] ∧ ∃ p ∈ cs, fdd.code = .ref p.1
  gl : ∀ x d, gls.lookup x = some d → ∃ (u : Value) (v : V), mg x = some u ∧ RelV v u ∧ ∀ H, Dn K H v d
  fr : ∀ x, x ∈ free → mg x = none
theorem mok_bad (cs : List (Addr × Addr)) (F : PFacts K mg cs ds gls free) {n : Calls} (hn : ∀ i ss, n i ss = .bad) (k : Nat) : MOk (mkM ds gls free) P w K mg base T ec n k := by
  refine ⟨fun x i h => ?_, F.gl, F.fr⟩
  obtain ⟨m, d, e1, e2, e3⟩ := names_look h
  obtain rfl : i = m := by omega
  obtain ⟨f, fdd, h1, h2, h3, _⟩ := F.fn i d e2
  refine ⟨f, fdd, d.ps, d.fd, ?_, by rw [← e3]; exact h2, h1.kp, h3, rfl, ⟨fun vs H Q E h => h.1, fun A outer s H args us vs Q E _ _ _ _ hsp => ?_⟩⟩
  · show (ds.map fun d => d.ps.length)[i]? = _
    rw [List.getElem?_map, e2]; rfl
  · obtain ⟨_, ss, _, _, hm⟩ := hsp
    rw [hn] at hm
    exact False.elim hm
theorem prog_ok {cs : List (Addr × Addr)} (F : PFacts K mg cs ds gls free) (hl : ds.length ≤ 1000) (hc : ∀ (i : Nat) (d : Df), ds[i]? = some d → d.chk (mkM ds gls free) = true) (hT : ∀ p ∈ cs, GxR.TabB base mg p.1 p.2 ∧ p.2 ∈ T) (fu : Nat) :
    ∀ k, MOk (mkM ds gls free) P w K mg base T ec (callN (ds.map Df.fd) fu k) (8 * k + 8) ∧ MOk (mkM ds gls free) P w K mg base T ec (dnC (callN (ds.map Df.fd) fu k)) (8 * k) := by
  intro k
  induction k with
  | zero => exact ⟨mok_bad cs F (fun _ _ => rfl) _, mok_bad cs F (fun _ _ => rfl) _⟩
  | succ k ih =>
    refine ⟨⟨fun x i h => ?_, F.gl, F.fr⟩, ?_⟩
    · obtain ⟨m, d, e1, e2, e3⟩ := names_look h
      obtain rfl : i = m := by omega
      obtain ⟨f, fdd, h1, h2, h3, p, hp, hcode⟩ := F.fn i d e2
      refine ⟨f, fdd, d.ps, d.fd, ?_, by rw [← e3]; exact h2, h1.kp, h3, rfl, ?_⟩
      · show (ds.map fun d => d.ps.length)[i]? = _
        rw [List.getElem?_map, e2]; rfl
      · have r := def_ok (T := T) (ec := ec) (P := P) (w := w) (base := base) (by rw [List.getElem?_map, e2]; rfl) h1 (hc i d e2) ih.1 ih.2 ⟨p.1, p.2, hcode, (hT p hp).1, (hT p hp).2⟩
        exact r
    · rw [dnC_succ (by rw [List.length_map]; exact hl)]
      exact ih.1
end
end Wk

set_option Elab.async false
set_option linter.all false
set_option maxRecDepth 100000
set_option maxHeartbeats 8000000
/-! the program's facts from the head's look; the law's end -/
namespace Wk
open PySem PySem.Spec PyProof.Rows L2

def Df.dd (d : Df) : He.DefD := ⟨(d.x, none), d.x, d.qual, defArgs d.st, defBody d.st, defScope d.st, [], []⟩
def glFa : Str × D → He.Fa
  | (x, .int i) => .int x i
  | (x, .str z) => .str x z
  | (x, _) => .keep x
def glOk : Str × D → Bool
  | (_, .int _) => true
  | (_, .str z) => sokB z
  | _ => false
def faOf (ds : List Df) (gls : List (Str × D)) (free : List Str) : List He.Fa := ds.map (fun d => .glo d.x) ++ (gls.map glFa ++ free.map .free)
def fnD (ds : List Df) : List He.DefD := ds.map Df.dd
def tfD (ds : List Df) : List He.Defn := ds.map fun d => (d.x, none)
/-- how a def's arguments bind -/
def Df.Bnd (d : Df) : Prop := ∀ (kV doc pm : Value) (an : Option Addr) (cdv ct : Value) (us : List Value), us.length = d.ps.length → bindArgs (PySem.W.fnOf d.x d.qual (defArgs d.st) (defBody d.st) (defScope d.st) .none kV doc pm an cdv ct) ⟨us, []⟩ = pure (d.ps.zip us)
abbrev yes : PySem.W.Frag → Bool := fun _ => true
theorem funD_fun {K : PySem.W.Frag} {d : Df} {f : Addr} {fd : FuncData} (F : FunD K d.x d.qual (defArgs d.st) (defBody d.st) (defScope d.st) [] [] f fd) : Fun K d.x d.qual d.st f fd ∧ ∃ c, fd.code = .ref c := by
  obtain ⟨oc, od, dV, kV, doc, pm, an, cdv, ct, osl, rfl, lk, hcd, hD, hK⟩ := F.ex
  rcases hD with ⟨_, rfl⟩ | ⟨e, _⟩
  · obtain ⟨c, e⟩ := He.codeIn_ref hcd
    exact ⟨⟨⟨oc, od, kV, doc, pm, an, cdv, ct, osl, rfl, lk, hcd⟩, F.kp⟩, c, e⟩
  · exact absurd rfl e
section
variable {K : PySem.W.Frag} {mg : Str → Option Value} {ds : List Df} {gls : List (Str × D)} {free : List Str} {w : World} {h : Heap}
theorem mem_of_lookupL {x : Str} {d : D} : ∀ {l : List (Str × D)}, l.lookup x = some d → (x, d) ∈ l
  | [], h => by cases h
  | (y, e) :: l, h => by
    rw [List.lookup_cons] at h
    split at h
    · rename_i q
      cases h
      rw [beq_iff_eq.mp q]
      exact List.mem_cons_self ..
    · exact List.mem_cons_of_mem _ (mem_of_lookupL h)
theorem pfacts (KX : K.In h) (G : h.Ns mainGlobals mg) (c : He.SaysX (faOf ds gls free) (fnD ds) [] (tfD ds) yes w h K) (hb : ∀ (i : Nat) (d : Df), ds[i]? = some d → d.Bnd) (hg : gls.all glOk = true) :
    PFacts K mg ((tfD ds).map (He.cT K)) ds gls free := by
  have cd := c.t.d
  refine ⟨fun i d e => ?_, fun x d e => ?_, fun x e => ?_⟩
  · have hm : d ∈ ds := List.mem_of_getElem? e
    obtain ⟨fd, F⟩ := cd.defs (d := d.dd) (List.mem_map.mpr ⟨d, hm, rfl⟩)
    have F : FunD K d.x d.qual (defArgs d.st) (defBody d.st) (defScope d.st) [] [] (He.fAd K (d.x, none)) fd := F
    obtain ⟨F1, c1, e1⟩ := funD_fun F
    have gl : mg d.x = some (.ref (He.ga K d.x)) := He.glo_ok KX G (cd.facts (f := .glo d.x) (List.mem_append_left _ (List.mem_map.mpr ⟨d, hm, rfl⟩)))
    refine ⟨He.fAd K (d.x, none), fd, F1, gl, FunD.bindsN F (hb i d e), He.cT K (d.x, none), List.mem_map.mpr ⟨(d.x, none), List.mem_map.mpr ⟨d, hm, rfl⟩, rfl⟩, ?_⟩
    obtain ⟨oc, od, dV, kV, doc, pm, an, cdv, ct, osl, rfl, lk, _⟩ := F.ex
    rw [e1]
    show Value.ref c1 = .ref (He.codeOf K (d.x, none))
    rw [He.codeOf_eq lk e1]
  · have hm := mem_of_lookupL e
    have ok := List.all_eq_true.mp hg _ hm
    have ft := cd.facts (f := glFa (x, d)) (List.mem_append_right _ (List.mem_append_left _ (List.mem_map.mpr ⟨_, hm, rfl⟩)))
    cases d with
    | int i =>
      obtain ⟨t, q⟩ := He.int_ok KX G ft
      exact ⟨_, .int i, q, ⟨t, rfl⟩, fun H => .int i⟩
    | str z =>
      obtain ⟨t, q⟩ := He.str_ok KX G ft
      have ok : sokB z = true := ok
      simp only [sokB, Bool.and_eq_true, decide_eq_true_eq] at ok
      exact ⟨_, .str z, q, ⟨t, rfl⟩, fun H => .str z ok⟩
    | _ => cases ok
  · exact He.free_ok KX G (cd.facts (f := .free x) (List.mem_append_right _ (List.mem_append_right _ (List.mem_map.mpr ⟨x, e, rfl⟩))))
/-- the law's argument -/
def IsScript (s : Sl) (ns : List Int) : Prop := s = .bor (.lst (ns.map PyData.int)) ∨ s = .im (.list (ns.map PyData.int))
theorem script_slot {T : List Addr} {H : Hp} {a : Addr} {ns : List Int} {d : Fd} (hd : d.np = 1) (hT : ∀ P ∈ T, H P = some (.tbl #[])) (hS : SqL K H a (ns.map V.int)) : ∃ s, IsScript s ns ∧ Rp (callG K T (fun _ => none) [s] [.ref a] H) H (st0 d [.ref a]) (startS d [s]) := by
  have mk : ∀ s : Sl, SlOk (callG K T (fun _ => none) [s] [.ref a] H) H (.ref a) s → isOM (some (some s)) = false → Rp (callG K T (fun _ => none) [s] [.ref a] H) H (st0 d [.ref a]) (startS d [s]) := fun s ok om => by
    have get : ∀ (i : Nat) (o : Option Sl), (startS d [s])[i]? = some o → (i = 0 ∧ o = some s) ∨ o = none := fun i o e => by
      unfold startS at e
      cases i with
      | zero => simp at e; exact .inl ⟨rfl, e.symm⟩
      | succ i =>
        simp only [List.map_cons, List.map_nil, List.cons_append, List.nil_append, List.getElem?_cons_succ, List.getElem?_replicate] at e
        split at e
        · exact .inr (Option.some.inj e).symm
        · cases e
    refine ⟨by simp [st0, startS], fun i s' e => ?_, fun i j b hij h1 h2 h3 => ?_, .refl, fun P hP => ⟨#[], hT P hP, trivial⟩⟩
    · rcases get i _ e with ⟨rfl, e⟩ | e
      · cases e
        exact ⟨.ref a, rfl, ok⟩
      · cases e
    · exfalso
      cases e : (startS d [s])[i]? with
      | none => rw [e] at h1; cases h1
      | some o =>
        rcases get i _ e with ⟨rfl, e2⟩ | e2
        · rw [e, e2, om] at h1; cases h1
        · rw [e, e2] at h1; cases h1
  rcases hS with hS | hS
  · exact ⟨_, .inl rfl, mk _ ⟨a, rfl, _, hS, .ofInts _⟩ rfl⟩
  · exact ⟨_, .inr rfl, mk _ (Dn.lst (.inr hS) (.ofInts _)) rfl⟩
theorem lawAtS_of {l : PySem.W.OpenLaw} {fa : Addr} {kk i n : Nat} {d : Df} {x : Str} (KX : K.In h) (G : h.Ns mainGlobals mg) (c : He.SaysX (faOf ds gls free) (fnD ds) [] (tfD ds) yes w h K) (hb : ∀ (i : Nat) (d : Df), ds[i]? = some d → d.Bnd) (hg : gls.all glOk = true)
    (hl : ds.length ≤ 1000) (hc : ∀ (i : Nat) (d : Df), ds[i]? = some d → d.chk (mkM ds gls free) = true) (hd : ds[i]? = some d) (hps : d.ps = [x]) (hmg : mg d.x = some (.ref fa)) (fu : Nat)
    (math : ∀ (ns : List Int) (s : Sl), ns.length ≤ n → IsScript s ns → ∃ cs, callN (ds.map Df.fd) fu (kk + 1) i [s] = .ok (.im (.bool true), cs)) : LamX.LawAtS l w K (L2.CX l.prog w) (8 * kk + 16) n x mg fa h := by
  have pf := pfacts KX G c hb hg
  have cd := c.t.d
  have hm : d ∈ ds := List.mem_of_getElem? hd
  obtain ⟨fd, F⟩ := cd.defs (d := d.dd) (List.mem_map.mpr ⟨d, hm, rfl⟩)
  have F : FunD K d.x d.qual (defArgs d.st) (defBody d.st) (defScope d.st) [] [] (He.fAd K (d.x, none)) fd := F
  have gl : mg d.x = some (.ref (He.ga K d.x)) := He.glo_ok KX G (cd.facts (f := .glo d.x) (List.mem_append_left _ (List.mem_map.mpr ⟨d, hm, rfl⟩)))
  have efa : fa = He.fAd K (d.x, none) := by
    have := hmg.symm.trans gl
    cases this; rfl
  have bind := FunD.bindsA F (hb i d hd)
  let cs := (tfD ds).map (He.cT K)
  let T := cs.map (·.2)
  have hnp : d.fd.np = 1 := by show d.ps.length = 1; rw [hps]; rfl
  refine ⟨fd, cs, spF K T (fun _ => none) (callN (ds.map Df.fd) fu (kk + 1)) d.fd i, fun p hp => ?_, fun p hp => ?_, fun p hp => ?_, fun s u => ?_, fun H a ns hn hbits hH hS => ?_, fun base KB nsB hTB => ?_⟩
  · obtain ⟨q, hq, rfl⟩ := List.mem_map.mp hp
    exact c.empty q hq
  · obtain ⟨q, hq, rfl⟩ := List.mem_map.mp hp
    exact c.out q hq
  · obtain ⟨q, hq, rfl⟩ := List.mem_map.mp hp
    exact PySem.W.codeHd_of_K KX (c.hd q hq)
  · have q := bind s [u] (by rw [hps]; rfl)
    rw [hps] at q
    exact q
  · have hT : ∀ P ∈ T, H P = some (.tbl #[]) := fun P hP => by
      obtain ⟨p, hp, rfl⟩ := List.mem_map.mp hP
      exact hH p hp
    obtain ⟨s, his, rp⟩ := script_slot (T := T) hnp hT hS
    refine ⟨by rw [hnp]; rfl, [s], by rw [hnp]; rfl, rp, ?_⟩
    obtain ⟨cs', e⟩ := math ns s hn his
    rw [e]
    exact fun v H' _ ret _ => Dn.bool_eq ret
  · have hT2 : ∀ p ∈ cs, GxR.TabB base mg p.1 p.2 ∧ p.2 ∈ T := fun p hp => ⟨⟨(hTB p hp).code, (hTB p hp).bm, (hTB p hp).gP⟩, List.mem_map.mpr ⟨p, hp, rfl⟩⟩
    have po := prog_ok (P := l.prog) (w := w) (base := base) (T := T) (ec := fun _ => none) pf hl hc hT2 fu kk
    obtain ⟨F1, c1, e1⟩ := funD_fun F
    have hp : He.cT K (d.x, none) ∈ cs := List.mem_map.mpr ⟨(d.x, none), List.mem_map.mpr ⟨d, hm, rfl⟩, rfl⟩
    have ecode : fd.code = .ref (He.cT K (d.x, none)).1 := by
      obtain ⟨oc, od, dV, kV, doc, pm, an, cdv, ct, osl, rfl, lk, _⟩ := F.ex
      rw [e1]
      show Value.ref c1 = .ref (He.codeOf K (d.x, none))
      rw [He.codeOf_eq lk e1]
    have r := def_ok (T := T) (ec := fun _ => none) (P := l.prog) (w := w) (base := base) (fds := ds.map Df.fd) (fu := fu) (k := kk) (L := 8 * kk) (i := i) (by rw [List.getElem?_map, hd]; rfl) F1 (hc i d hd) po.1 po.2 ⟨_, _, ecode, (hT2 _ hp).1, (hT2 _ hp).2⟩
    rw [hps] at r
    rw [efa]
    exact r
end
end Wk

set_option Elab.async false
set_option linter.all false
/-! the evaluator's steps as rewriting rules -/
namespace Wk
open PySem PySem.Spec PyProof.Rows L2
theorem cn_im {d : D} : (Sl.im d).cn = .dat d := rfl
theorem cn_own {c : Ct} : (Sl.own c).cn = c.cn := rfl
theorem cn_bor {c : Ct} : (Sl.bor c).cn = c.cn := rfl
theorem cn_chg {c : Ct} : (Sl.chg c).cn = c.cn := rfl
theorem cn_lst {xs : List D} : (Ct.lst xs).cn = .dat (.list xs) := rfl
theorem cn_dct {xs : List (D × D)} : (Ct.dct xs).cn = .dct xs := rfl
theorem cn_set {xs : List D} : (Ct.set xs).cn = .set xs := rfl
theorem datR_im {d : D} {ρ : Sv} : datR (.ok (.im d, ρ)) = .ok (d, ρ) := rfl
theorem datR_lst {xs : List D} {ρ : Sv} : datR (.ok (.own (.lst xs), ρ)) = .ok (.list xs, ρ) := rfl
theorem tru_none : truthC (.dat .none) = .ok false := rfl
theorem tru_bool {b : Bool} : truthC (.dat (.bool b)) = .ok b := rfl
theorem tru_int {i : Int} : truthC (.dat (.int i)) = .ok (i != 0) := rfl
theorem tru_list {xs : List D} : truthC (.dat (.list xs)) = .ok (!xs.isEmpty) := rfl
theorem tru_tuple {xs : List D} : truthC (.dat (.tuple xs)) = .ok (!xs.isEmpty) := rfl
theorem trd_none : truthD .none = .ok false := rfl
theorem trd_bool {b : Bool} : truthD (.bool b) = .ok b := rfl
theorem trd_int {i : Int} : truthD (.int i) = .ok (i != 0) := rfl
theorem trd_list {xs : List D} : truthD (.list xs) = .ok (!xs.isEmpty) := rfl
theorem trd_tuple {xs : List D} : truthD (.tuple xs) = .ok (!xs.isEmpty) := rfl
theorem len_list {xs : List D} : lenC (.dat (.list xs)) = .ok (.int xs.length) := rfl
theorem len_tuple {xs : List D} : lenC (.dat (.tuple xs)) = .ok (.int xs.length) := rfl
theorem len_dct {xs : List (D × D)} : lenC (.dct xs) = .ok (.int xs.length) := rfl
theorem cv_int {i : Int} : cvC .int (.dat (.int i)) = .ok (.im (.int i)) := rfl
theorem cv_tup1 {xs : List D} : cvC .tup (.dat (.list xs)) = .ok (.im (.tuple xs)) := rfl
theorem cv_tup2 {xs : List D} : cvC .tup (.dat (.tuple xs)) = .ok (.im (.tuple xs)) := rfl
theorem cv_lst1 {xs : List D} : cvC .lst (.dat (.list xs)) = .ok (.own (.lst xs)) := rfl
theorem cv_lst2 {xs : List D} : cvC .lst (.dat (.tuple xs)) = .ok (.own (.lst xs)) := rfl
theorem slD_int {i : Int} : slD (.int i) = .im (.int i) := rfl
theorem slD_tuple {xs : List D} : slD (.tuple xs) = .im (.tuple xs) := rfl
theorem slD_str {x : Str} : slD (.str x) = .im (.str x) := rfl
theorem slD_list {xs : List D} : slD (.list xs) = .own (.lst xs) := rfl
theorem isi_none {t : Ty} : isiC t (.dat .none) = .ok (isTy t .none) := rfl
theorem isi_bool {t : Ty} {b : Bool} : isiC t (.dat (.bool b)) = .ok (isTy t (.bool b)) := rfl
theorem isi_int {t : Ty} {i : Int} : isiC t (.dat (.int i)) = .ok (isTy t (.int i)) := rfl
theorem isi_str {t : Ty} {x : Str} : isiC t (.dat (.str x)) = .ok (isTy t (.str x)) := rfl
theorem isi_tuple {t : Ty} {xs : List D} : isiC t (.dat (.tuple xs)) = .ok (isTy t (.tuple xs)) := rfl
theorem isi_list {t : Ty} {xs : List D} : isiC t (.dat (.list xs)) = .ok (isTy t (.list xs)) := rfl
theorem arg_im {d : D} : argE (.im d) = .ok (.im d) := rfl
theorem arg_own {c : Ct} : argE (.own c) = .ok (.bor c) := rfl
theorem grd_true {α : Type} {m : R α} : guardR true m = m := rfl
theorem get_0 {s : Sl} {ρ : Sv} : getS (some s :: ρ) 0 = .ok s := rfl
theorem get_s {o : Option Sl} {ρ : Sv} {i : Nat} : getS (o :: ρ) (i + 1) = getS ρ i := rfl
def varF (o : Option (Option Sl)) (ρ : Sv) (i : Nat) : R (Sl × Sv) := match o with
  | some (some (.im d)) => .ok (.im d, ρ)
  | some (some (.own (.lst xs))) => .ok (.im (.list xs), ρ.set i (some (.im (.list xs))))
  | _ => .bad
theorem var_eq {ρ : Sv} {i : Nat} : varS ρ i = varF ρ[i]? ρ i := rfl
theorem var_im {d : D} {ρ : Sv} {i : Nat} : varF (some (some (.im d))) ρ i = .ok (.im d, ρ) := rfl
theorem var_own {xs : List D} {ρ : Sv} {i : Nat} : varF (some (some (.own (.lst xs)))) ρ i = .ok (.im (.list xs), ρ.set i (some (.im (.list xs)))) := rfl
def movF (o : Option (Option Sl)) (ρ : Sv) (i : Nat) : R (Sl × Sv) := match o with
  | some (some (.im d)) => .ok (.im d, ρ)
  | some (some (.own c)) => .ok (.own c, ρ.set i none)
  | _ => .bad
theorem mov_eq {ρ : Sv} {i : Nat} : movS ρ i = movF ρ[i]? ρ i := rfl
theorem mov_im {d : D} {ρ : Sv} {i : Nat} : movF (some (some (.im d))) ρ i = .ok (.im d, ρ) := rfl
theorem mov_own {c : Ct} {ρ : Sv} {i : Nat} : movF (some (some (.own c))) ρ i = .ok (.own c, ρ.set i none) := rfl
def borF (o : Option (Option Sl)) : R Sl := match o with
  | some (some (.im d)) => .ok (.im d)
  | some (some (.own c)) => .ok (.bor c)
  | some (some (.bor c)) => .ok (.bor c)
  | some (some (.chg c)) => .ok (.bor c)
  | _ => .bad
theorem bor_eq {ρ : Sv} {i : Nat} : borS ρ i = borF ρ[i]? := rfl
theorem bor_im {d : D} : borF (some (some (.im d))) = .ok (.im d) := rfl
theorem bor_own {c : Ct} : borF (some (some (.own c))) = .ok (.bor c) := rfl
theorem bor_bor {c : Ct} : borF (some (some (.bor c))) = .ok (.bor c) := rfl
theorem bor_chg {c : Ct} : borF (some (some (.chg c))) = .ok (.bor c) := rfl
def mutF (o : Option (Option Sl)) : R Sl := match o with
  | some (some (.own c)) => .ok (.chg c)
  | some (some (.chg c)) => .ok (.chg c)
  | _ => .bad
theorem mut_eq {ρ : Sv} {i : Nat} : mutS ρ i = mutF ρ[i]? := rfl
theorem mut_own {c : Ct} : mutF (some (some (.own c))) = .ok (.chg c) := rfl
theorem mut_chg {c : Ct} : mutF (some (some (.chg c))) = .ok (.chg c) := rfl
def putF (o : Option (Option Sl)) (ρ : Sv) (i : Nat) (c : Ct) : Sv := match o with
  | some (some (.own _)) => ρ.set i (some (.own c))
  | some (some (.chg _)) => ρ.set i (some (.chg c))
  | _ => ρ
theorem put_eq {ρ : Sv} {i : Nat} {c : Ct} : putBack ρ i c = putF ρ[i]? ρ i c := rfl
theorem put_own {c c' : Ct} {ρ : Sv} {i : Nat} : putF (some (some (.own c))) ρ i c' = ρ.set i (some (.own c')) := rfl
theorem put_chg {c c' : Ct} {ρ : Sv} {i : Nat} : putF (some (some (.chg c))) ρ i c' = ρ.set i (some (.chg c')) := rfl
def finF (o : Option (Option Sl)) (m : R (List Ct)) : R (List Ct) := match o with
  | some (some (.chg c)) => m >>= fun cs => .ok (c :: cs)
  | _ => .bad
theorem fin_eq {ρ : Sv} {i : Nat} {c0 : Ct} {ss : List Sl} : finals ρ i (.chg c0 :: ss) = finF ρ[i]? (finals ρ (i + 1) ss) := rfl
theorem fin_chg {c : Ct} {m : R (List Ct)} : finF (some (some (.chg c))) m = (m >>= fun cs => .ok (c :: cs)) := rfl
def lkF (o : Option (Option Sl)) (ρ : Sv) (i : Nat) : Sv := match o with
  | some (some (.own c)) => ρ.set i (some (.bor c))
  | some (some (.chg c)) => ρ.set i (some (.bor c))
  | _ => ρ
theorem lk_eq {ρ : Sv} {i : Nat} {is : List Nat} : lockS ρ (i :: is) = lkF ρ[i]? (lockS ρ is) i := rfl
theorem lk_im {d : D} {ρ : Sv} {i : Nat} : lkF (some (some (.im d))) ρ i = ρ := rfl
theorem lk_bor {c : Ct} {ρ : Sv} {i : Nat} : lkF (some (some (.bor c))) ρ i = ρ := rfl
theorem lk_own {c : Ct} {ρ : Sv} {i : Nat} : lkF (some (some (.own c))) ρ i = ρ.set i (some (.bor c)) := rfl
theorem lk_chg {c : Ct} {ρ : Sv} {i : Nat} : lkF (some (some (.chg c))) ρ i = ρ.set i (some (.bor c)) := rfl
def unF (o o0 : Option (Option Sl)) (ρ : Sv) (i : Nat) : Sv := match o, o0 with
  | some (some (.bor c)), some (some (.own _)) => ρ.set i (some (.own c))
  | some (some (.bor c)), some (some (.chg _)) => ρ.set i (some (.chg c))
  | _, _ => ρ
theorem un_eq {ρ ρ0 : Sv} {i : Nat} {is : List Nat} : unlock ρ ρ0 (i :: is) = unF ρ[i]? ρ0[i]? (unlock ρ ρ0 is) i := rfl
theorem un_own {c c0 : Ct} {ρ : Sv} {i : Nat} : unF (some (some (.bor c))) (some (some (.own c0))) ρ i = ρ.set i (some (.own c)) := rfl
theorem un_chg {c c0 : Ct} {ρ : Sv} {i : Nat} : unF (some (some (.bor c))) (some (some (.chg c0))) ρ i = ρ.set i (some (.chg c)) := rfl
theorem un_bor {c c0 : Ct} {ρ : Sv} {i : Nat} : unF (some (some (.bor c))) (some (some (.bor c0))) ρ i = ρ := rfl
theorem un_im {d : D} {o : Option (Option Sl)} {ρ : Sv} {i : Nat} : unF (some (some (.im d))) o ρ i = ρ := rfl
theorem puts_nil {ρ : Sv} {cs : List Ct} : putBacks ρ [] cs = ρ := rfl
theorem puts_cons {ρ : Sv} {i : Nat} {is : List Nat} {c : Ct} {cs : List Ct} : putBacks ρ (i :: is) (c :: cs) = putBacks (putBack ρ i c) is cs := rfl
theorem app_own {xs : List D} {d : D} (h : xs.length < lineN) : appC d (.own (.lst xs)) = .ok (.own (.lst (xs ++ [d]))) := by
  show guardR (decide (xs.length < lineN)) _ = _
  rw [decide_eq_true h]; rfl
theorem app_chg {xs : List D} {d : D} (h : xs.length < lineN) : appC d (.chg (.lst xs)) = .ok (.chg (.lst (xs ++ [d]))) := by
  show guardR (decide (xs.length < lineN)) _ = _
  rw [decide_eq_true h]; rfl
theorem isl_list {xs : List D} : isListC (.dat (.list xs)) = true := rfl
theorem isd_dct {xs : List (D × D)} : isDctC (.dct xs) = true := rfl
theorem fin_nil {ρ : Sv} {i : Nat} : finals ρ i [] = .ok [] := by unfold finals; rfl
theorem fin_im {ρ : Sv} {i : Nat} {d : D} {ss : List Sl} : finals ρ i (.im d :: ss) = finals ρ (i + 1) ss := rfl
theorem fin_bor {ρ : Sv} {i : Nat} {c : Ct} {ss : List Sl} : finals ρ i (.bor c :: ss) = finals ρ (i + 1) ss := rfl
theorem fin_own {ρ : Sv} {i : Nat} {c : Ct} {ss : List Sl} : finals ρ i (.own c :: ss) = finals ρ (i + 1) ss := rfl
theorem out_ret {ss : List Sl} {s : Sl} {ρ : Sv} : outCall ss (.ret s ρ) = (finals ρ 0 ss >>= fun cs => .ok (s, cs)) := rfl
theorem out_nx {ss : List Sl} {ρ : Sv} : outCall ss (.nx ρ) = (finals ρ 0 ss >>= fun cs => .ok (.im .none, cs)) := rfl
theorem ob_nx {ρ : Sv} {f : Sv → Out} : (Out.nx ρ).bind f = f ρ := rfl
theorem ob_ret {s : Sl} {ρ : Sv} {f : Sv → Out} : (Out.ret s ρ).bind f = .ret s ρ := rfl
theorem ob_brk {ρ : Sv} {f : Sv → Out} : (Out.brk ρ).bind f = .brk ρ := rfl
theorem ob_cnt {ρ : Sv} {f : Sv → Out} : (Out.cnt ρ).bind f = .cnt ρ := rfl
theorem ul_nx {ρ ρ0 : Sv} {is : List Nat} : (Out.nx ρ).unlock ρ0 is = .nx (Wk.unlock ρ ρ0 is) := rfl
theorem ul_ret {s : Sl} {ρ ρ0 : Sv} {is : List Nat} : (Out.ret s ρ).unlock ρ0 is = .ret s (Wk.unlock ρ ρ0 is) := rfl
theorem bp_im {i : Nat} {d : D} {ρ : Sv} : bindP (.v i) (.im d) ρ = .ok (ρ.set i (some (.im d))) := by simp only [bindP]
theorem bp_own {i : Nat} {c : Ct} {ρ : Sv} : bindP (.v i) (.own c) ρ = .ok (ρ.set i (some (.own c))) := by simp only [bindP]
theorem bp_t {ps : List Pt} {ds : List D} {ρ : Sv} : bindP (.t ps) (.im (.tuple ds)) ρ = bindPs ps ds ρ := by simp only [bindP]
theorem bps_nil {ρ : Sv} : bindPs [] [] ρ = .ok ρ := by simp only [bindPs]
theorem bps_cons {p : Pt} {ps : List Pt} {d : D} {ds : List D} {ρ : Sv} : bindPs (p :: ps) (d :: ds) ρ = (bindP p (.im d) ρ >>= fun ρ1 => bindPs ps ds ρ1) := by simp only [bindPs]
theorem lk_nil {ρ : Sv} : lockS ρ [] = ρ := rfl
theorem un_nil {ρ ρ0 : Sv} : unlock ρ ρ0 [] = ρ := rfl
theorem nox_ok {α : Type} {a : α} : (R.ok a).nox = .ok a := rfl
theorem ite_tt {α : Type} {a b : α} : (if true = true then a else b) = a := if_pos rfl
theorem ite_ff {α : Type} {a b : α} : (if false = true then a else b) = b := if_neg Bool.false_ne_true
theorem as_nil {ρ : Sv} : argSls ρ .nil [] = .ok [] := rfl
theorem as_e {ρ : Sv} {a : E} {as : As} {v : Sl} {vs : List Sl} : argSls ρ (.e a as) (v :: vs) = (argE v >>= fun s => argSls ρ as vs >>= fun ss => .ok (s :: ss)) := by simp only [argSls]
theorem as_bor {ρ : Sv} {i : Nat} {as : As} {vs : List Sl} : argSls ρ (.bor i as) vs = (borS ρ i >>= fun s => argSls ρ as vs >>= fun ss => .ok (s :: ss)) := by simp only [argSls]
theorem as_chg {ρ : Sv} {i : Nat} {as : As} {vs : List Sl} : argSls ρ (.chg i as) vs = (mutS ρ i >>= fun s => argSls ρ as vs >>= fun ss => .ok (s :: ss)) := by simp only [argSls]
theorem idxL {xs : List D} {i : Int} {v : D} (h : atI xs i = some v) : idxD (.dat (.list xs)) (.int i) = .ok v := by
  show (match atI xs i with | some v => R.ok v | none => .bad) = _
  rw [h]
theorem idxT {xs : List D} {i : Int} {v : D} (h : atI xs i = some v) : idxD (.dat (.tuple xs)) (.int i) = .ok v := by
  show (match atI xs i with | some v => R.ok v | none => .bad) = _
  rw [h]
theorem idxK {kvs : List (D × D)} {k v : D} (h : isKey k = true) (e : lookD k kvs = some v) : idxD (.dct kvs) k = .ok v := by
  have : idxD (.dct kvs) k = guardR (isKey k) (match lookD k kvs with
    | some v => R.ok v
    | none => .bad) := by cases k <;> rfl
  rw [this, h, e]; rfl
theorem bAdd {i j : Int} : binD .add (.int i) (.int j) = .ok (.int (i + j)) := rfl
theorem bSub {i j : Int} : binD .sub (.int i) (.int j) = .ok (.int (i - j)) := rfl
theorem bMul {i j : Int} (h : (small64 i || small64 j) = true) : binD .mul (.int i) (.int j) = .ok (.int (i * j)) := by
  show guardR (small64 i || small64 j) _ = _
  rw [h]; rfl
theorem bMulR {i j : Int} (h : small64 j = true) : binD .mul (.int i) (.int j) = .ok (.int (i * j)) := bMul (by rw [h]; simp)
theorem bMulL {i j : Int} (h : small64 i = true) : binD .mul (.int i) (.int j) = .ok (.int (i * j)) := bMul (by rw [h]; simp)
theorem bMod {i j : Int} (h : 0 < j) : binD .mod (.int i) (.int j) = .ok (.int (i % j)) := by
  show guardR (decide (0 < j)) _ = _
  rw [decide_eq_true h]; rfl
theorem bFdiv {i j : Int} (h : 0 < j) (h2 : j < 1073741824) : binD .fdiv (.int i) (.int j) = .ok (.int (i / j)) := by
  show guardR (decide (0 < j) && decide (j < 1073741824)) _ = _
  rw [decide_eq_true h, decide_eq_true h2]; rfl
theorem c_lt {i j : Int} : cmpD .lt (.int i) (.int j) = .ok (decide (i < j)) := rfl
theorem c_le {i j : Int} : cmpD .le (.int i) (.int j) = .ok (decide (i ≤ j)) := rfl
theorem c_gt {i j : Int} : cmpD .gt (.int i) (.int j) = .ok (decide (j < i)) := rfl
theorem c_ge {i j : Int} : cmpD .ge (.int i) (.int j) = .ok (decide (j ≤ i)) := rfl
/-- where an index lies -/
theorem atI_ok {α : Type} {xs : List α} {i : Int} (h0 : 0 ≤ i) (h1 : i < xs.length) : ∃ x, xs[i.toNat]? = some x ∧ atI xs i = some x := by
  have h2 : i.toNat < xs.length := by omega
  refine ⟨xs[i.toNat], by simp [h2], ?_⟩
  unfold atI ixN
  rw [if_pos h0, if_pos h1]
  simp [h2]
/-- a for without return -/
theorem loopF_inv {p : Pt} {b : Sv → Out} (I : Nat → Sv → Prop) (xs : List D) (h : ∀ i x ρ, xs[i]? = some x → I i ρ → ∃ ρ1 ρ2, bindP p (.im x) ρ = .ok ρ1 ∧ b ρ1 = .nx ρ2 ∧ I (i + 1) ρ2) : ∀ ρ, I 0 ρ → ∃ ρ', loopF p b xs ρ = .nx ρ' ∧ I xs.length ρ' := by
  have gen : ∀ (ys : List D) (i : Nat) (ρ : Sv), xs.drop i = ys → i ≤ xs.length → I i ρ → ∃ ρ', loopF p b ys ρ = .nx ρ' ∧ I xs.length ρ' := by
    intro ys
    induction ys with
    | nil =>
      intro i ρ e hi hI
      have : i = xs.length := by
        have := congrArg List.length e
        rw [List.length_drop, List.length_nil] at this
        omega
      subst this
      exact ⟨ρ, rfl, hI⟩
    | cons y ys ih =>
      intro i ρ e hi hI
      have hlt : i < xs.length := by
        have := congrArg List.length e
        rw [List.length_drop, List.length_cons] at this
        omega
      rw [List.drop_eq_getElem_cons hlt] at e
      obtain ⟨e1, e2⟩ := List.cons.inj e
      obtain ⟨ρ1, ρ2, h1, h2, h3⟩ := h i y ρ (by rw [← e1]; simp [hlt]) hI
      obtain ⟨ρ', h4, h5⟩ := ih (i + 1) ρ2 e2 hlt h3
      refine ⟨ρ', ?_, h5⟩
      unfold loopF
      rw [h1]
      show (match b ρ1 with | .nx ρ2 => loopF p b ys ρ2 | .cnt ρ2 => loopF p b ys ρ2 | .brk ρ2 => .nx ρ2 | o => o) = _
      rw [h2]
      exact h4
  exact fun ρ hI => gen xs 0 ρ rfl (Nat.zero_le _) hI
theorem loopF_v {j : Nat} {b : Sv → Out} (I : Nat → Sv → Prop) (xs : List D) (h : ∀ i x ρ, xs[i]? = some x → I i ρ → ∃ ρ2, b (ρ.set j (some (.im x))) = .nx ρ2 ∧ I (i + 1) ρ2) (ρ : Sv) (h0 : I 0 ρ) : ∃ ρ', loopF (.v j) b xs ρ = .nx ρ' ∧ I xs.length ρ' :=
  loopF_inv I xs (fun i x ρ hx hI => let ⟨ρ2, h1, h2⟩ := h i x ρ hx hI; ⟨_, ρ2, bp_im, h1, h2⟩) ρ h0
/-- .. over a range -/
theorem loopF_r {j : Nat} {b : Sv → Out} {lo : Int} {n : Nat} (I : Nat → Sv → Prop) (h : ∀ (i : Nat) ρ, i < n → I i ρ → ∃ ρ2, b (ρ.set j (some (.im (.int (lo + i))))) = .nx ρ2 ∧ I (i + 1) ρ2) (ρ : Sv) (h0 : I 0 ρ) : ∃ ρ', loopF (.v j) b (rangeD lo n) ρ = .nx ρ' ∧ I n ρ' := by
  obtain ⟨ρ', h1, h2⟩ := loopF_v I (rangeD lo n) (fun i x ρ hx hI => by
    obtain ⟨hi, rfl⟩ := rangeD_get hx
    exact h i ρ hi hI) ρ h0
  rw [rangeD_length] at h2
  exact ⟨ρ', h1, h2⟩
theorem c_eq {i j : Int} : cmpD .eq (.int i) (.int j) = .ok (decide (i = j)) := by
  show guardR (depthOk (.int i) (.int j)) (.ok (PyData.eqv (.int i) (.int j))) = _
  have h : depthOk (.int i) (.int j) = true := rfl
  rw [h, grd_true]
  congr 1
theorem c_ne {i j : Int} : cmpD .ne (.int i) (.int j) = .ok (!decide (i = j)) := by
  show guardR (depthOk (.int i) (.int j)) (.ok (!PyData.eqv (.int i) (.int j))) = _
  have h : depthOk (.int i) (.int j) = true := rfl
  rw [h, grd_true]
  congr 1
theorem c_eqs {x y : Str} : cmpD .eq (.str x) (.str y) = .ok (decide (x = y)) := by
  show guardR (depthOk (.str x) (.str y)) (.ok (PyData.eqv (.str x) (.str y))) = _
  have h : depthOk (.str x) (.str y) = true := rfl
  rw [h, grd_true]
  congr 1
/-! ### comprehensions -/
inductive All2 (P : D → D → Prop) : List D → List D → Prop
  | nil : All2 P [] []
  | cons {x y : D} {xs ys : List D} : P x y → All2 P xs ys → All2 P (x :: xs) (y :: ys)
theorem All2.length {P : D → D → Prop} : ∀ {xs ys : List D}, All2 P xs ys → ys.length = xs.length
  | _, _, .nil => rfl
  | _, _, .cons _ t => congrArg (· + 1) t.length
theorem loopC_all {j : Nat} {c : Sv → R (Bool × Sv)} {f : Sv → R (D × Sv)} {own : List Nat} (hc : ∀ ρ, c ρ = .ok (true, ρ)) (I : Sv → Prop) (P : D → D → Prop) : ∀ (xs : List D), (∀ x ∈ xs, ∀ ρ, I ρ → ∃ d ρ3, f (ρ.set j (some (.im x))) = .ok (d, ρ3) ∧ I (wipeS ρ3 own) ∧ P x d) → ∀ ρ, I ρ →
    ∃ ys ρ', loopC (.v j) c f own xs ρ = .ok (ys, ρ') ∧ I ρ' ∧ All2 P xs ys
  | [], _, ρ, hI => ⟨[], ρ, rfl, hI, .nil⟩
  | x :: xs, h, ρ, hI => by
    obtain ⟨d, ρ3, h1, h2, h3⟩ := h x List.mem_cons_self ρ hI
    obtain ⟨ys, ρ', h4, h5, h6⟩ := loopC_all hc I P xs (fun y hy => h y (List.mem_cons_of_mem _ hy)) _ h2
    refine ⟨d :: ys, ρ', ?_, h5, .cons h3 h6⟩
    unfold loopC
    rw [bp_im, R.ok_bind, hc, R.ok_bind]
    show (f (ρ.set j (some (.im x))) >>= fun r3 => loopC (.v j) c f own xs (wipeS r3.2 own) >>= fun r4 => R.ok (r3.1 :: r4.1, r4.2)) = _
    rw [h1, R.ok_bind, h4]
    rfl
/-- .. with a test -/
theorem loopC_sel {j : Nat} {c : Sv → R (Bool × Sv)} {f : Sv → R (D × Sv)} {own : List Nat} (I : Sv → Prop) (P : D → D → Prop) : ∀ (xs : List D), (∀ x ∈ xs, ∀ ρ, I ρ → (∃ ρ2 d ρ3, c (ρ.set j (some (.im x))) = .ok (true, ρ2) ∧ f ρ2 = .ok (d, ρ3) ∧ I (wipeS ρ3 own) ∧ P x d) ∨ ∃ ρ2, c (ρ.set j (some (.im x))) = .ok (false, ρ2) ∧ I (wipeS ρ2 own)) → ∀ ρ, I ρ →
    ∃ ys xs' ρ', loopC (.v j) c f own xs ρ = .ok (ys, ρ') ∧ I ρ' ∧ xs'.Sublist xs ∧ All2 P xs' ys
  | [], _, ρ, hI => ⟨[], [], ρ, rfl, hI, .slnil, .nil⟩
  | x :: xs, h, ρ, hI => by
    rcases h x List.mem_cons_self ρ hI with ⟨ρ2, d, ρ3, h0, h1, h2, h3⟩ | ⟨ρ2, h0, h2⟩
    · obtain ⟨ys, xs', ρ', h4, h5, h6, h7⟩ := loopC_sel I P xs (fun y hy => h y (List.mem_cons_of_mem _ hy)) _ h2
      refine ⟨d :: ys, x :: xs', ρ', ?_, h5, h6.cons_cons x, .cons h3 h7⟩
      unfold loopC
      rw [bp_im, R.ok_bind, h0, R.ok_bind]
      show (f ρ2 >>= fun r3 => loopC (.v j) c f own xs (wipeS r3.2 own) >>= fun r4 => R.ok (r3.1 :: r4.1, r4.2)) = _
      rw [h1, R.ok_bind, h4]
      rfl
    · obtain ⟨ys, xs', ρ', h4, h5, h6, h7⟩ := loopC_sel I P xs (fun y hy => h y (List.mem_cons_of_mem _ hy)) _ h2
      refine ⟨ys, xs', ρ', ?_, h5, h6.cons x, h7⟩
      unfold loopC
      rw [bp_im, R.ok_bind, h0, R.ok_bind]
      exact h4
/-- .. that changes nothing -/
theorem loopC_pure {j : Nat} {c : Sv → R (Bool × Sv)} {f : Sv → R (D × Sv)} {ρ : Sv} (q : D → Bool) (g : D → D) : ∀ (xs : List D), (∀ x ∈ xs, c (ρ.set j (some (.im x))) = .ok (q x, ρ.set j (some (.im x))) ∧ (q x = true → f (ρ.set j (some (.im x))) = .ok (g x, ρ.set j (some (.im x))))) → ρ.set j none = ρ →
    loopC (.v j) c f [j] xs ρ = .ok ((xs.filter q).map g, ρ)
  | [], _, _ => rfl
  | x :: xs, h, hw => by
    obtain ⟨h1, h2⟩ := h x List.mem_cons_self
    have ih := loopC_pure q g xs (fun y hy => h y (List.mem_cons_of_mem _ hy)) hw
    have hw2 : wipeS (ρ.set j (some (.im x))) [j] = ρ := by
      show (ρ.set j (some (.im x))).set j none = ρ
      rw [List.set_set, hw]
    unfold loopC
    rw [bp_im, R.ok_bind, h1, R.ok_bind]
    cases e : q x with
    | true =>
      show (f (ρ.set j (some (.im x))) >>= fun r3 => loopC (.v j) c f [j] xs (wipeS r3.2 [j]) >>= fun r4 => R.ok (r3.1 :: r4.1, r4.2)) = _
      rw [h2 e, R.ok_bind, hw2, ih, List.filter_cons_of_pos e]
      rfl
    | false =>
      show loopC (.v j) c f [j] xs (wipeS (ρ.set j (some (.im x))) [j]) = _
      rw [hw2, ih, List.filter_cons_of_neg (by rw [e]; exact Bool.false_ne_true)]
theorem evC_no {n : Calls} {ρ : Sv} : evC n .no ρ = .ok (true, ρ) := by simp only [evC]
theorem any_ints {x : Int} : ∀ {ks : List Int}, ((ks.map PyData.int).any fun z => PyData.eqv z (.int x)) = decide (x ∈ ks)
  | [] => rfl
  | y :: ks => by
    rw [List.map_cons, List.any_cons, any_ints]
    have : PyData.eqv (.int y) (.int x) = decide (y = x) := rfl
    rw [this, Bool.eq_iff_iff]
    simp only [Bool.or_eq_true, decide_eq_true_eq, List.mem_cons]
    exact ⟨fun h => h.imp Eq.symm id, fun h => h.imp Eq.symm id⟩
theorem mem_intsL {x : Int} {ks : List Int} : memD (.int x) (.dat (.list (ks.map PyData.int))) = .ok (decide (x ∈ ks)) := by
  show guardR (decide (min (PyData.depthAll (ks.map PyData.int)) (PyData.int x).depth ≤ 59)) (.ok ((ks.map PyData.int).any fun z => PyData.eqv z (.int x))) = _
  have h : (PyData.int x).depth ≤ 59 := by show 0 ≤ 59; omega
  rw [decide_eq_true (by omega), grd_true, any_ints]
theorem mem_intsT {x : Int} {ks : List Int} : memD (.int x) (.dat (.tuple (ks.map PyData.int))) = .ok (decide (x ∈ ks)) := by
  show guardR (decide (min (PyData.depthAll (ks.map PyData.int)) (PyData.int x).depth ≤ 59)) (.ok ((ks.map PyData.int).any fun z => PyData.eqv z (.int x))) = _
  have h : (PyData.int x).depth ≤ 59 := by show 0 ≤ 59; omega
  rw [decide_eq_true (by omega), grd_true, any_ints]
end Wk

set_option Elab.async false
set_option linter.all false
/-! heaps as data of their own; what is obtainable; no program in sight -/
namespace Wk
open PySem
inductive Ob where
  | recd (n : Int) (fs : List (Option Int))
  | weak (n : Int) (t : Option Int)
  | tab (n : Int) (es : List (Int × Int))
  deriving DecidableEq
def Ob.num : Ob → Int
  | .recd n _ => n
  | .weak n _ => n
  | .tab n _ => n
structure Hx where
  nx : Int
  regs : List (Option Int)
  kept : List Int
  objs : List Ob
  wat : List (Int × Int)
def Hx.nums (h : Hx) : List Int := h.objs.map Ob.num
def Ob.Ok (nums : List Int) : Ob → Prop
  | .recd _ fs => (∀ x, some x ∈ fs → x ∈ nums) ∧ fs.length ≤ 1000
  | .weak _ t => ∀ x, t = some x → x ∈ nums
  | .tab _ es => (∀ e ∈ es, e.1 ∈ nums ∧ e.2 ∈ nums) ∧ (es.map (·.1)).Nodup ∧ es.length ≤ 1000
structure Hx.Ok (h : Hx) : Prop where
  up : h.nums.Pairwise (· < ·)
  obs : ∀ o ∈ h.objs, o.Ok h.nums
  rgs : ∀ x, some x ∈ h.regs → x ∈ h.nums
  kpt : h.kept.Sublist h.nums
  wts : ∀ p ∈ h.wat, p.1 ∈ h.nums
  pos : ∀ x ∈ h.nums, 0 ≤ x
  nxt : ∀ x ∈ h.nums, x < h.nx
  few : h.nums.length ≤ 100
  fewR : h.regs.length ≤ 1000
  fewW : h.wat.length ≤ 1000
theorem Hx.Ok.nodup {h : Hx} (k : h.Ok) : h.nums.Nodup := k.up.imp fun h e => by omega
/-- what an object leads to, by the objects that are got -/
def Ob.To (o : Ob) (S : Int → Prop) (gone : List Int) (x : Int) : Prop := match o with
  | .recd _ fs => some x ∈ fs
  | .weak _ t => t = some x ∧ x ∉ gone
  | .tab _ es => ∃ k, (k, x) ∈ es ∧ S k
theorem Ob.To.mono {o : Ob} {S T : Int → Prop} {g g' : List Int} {x : Int} (hS : ∀ k, S k → T k) (hg : ∀ k, k ∈ g' → k ∈ g) (t : o.To S g x) : o.To T g' x := by
  cases o with
  | recd n fs => exact t
  | weak n t' => exact ⟨t.1, fun h => t.2 (hg _ h)⟩
  | tab n es => obtain ⟨k, h1, h2⟩ := t; exact ⟨k, h1, hS k h2⟩
/-- a set that is led out of by nothing -/
structure Hx.Shut (h : Hx) (gone : List Int) (S : Int → Prop) : Prop where
  reg : ∀ x, some x ∈ h.regs → S x
  led : ∀ o ∈ h.objs, S o.num → ∀ x, o.To S gone x → S x
def Hx.Get (h : Hx) (gone : List Int) (x : Int) : Prop := ∀ S, h.Shut gone S → S x
theorem Hx.get_shut (h : Hx) (gone : List Int) : h.Shut gone (h.Get gone) :=
  ⟨fun x hx S hS => hS.reg x hx, fun o ho h1 x h2 S hS => hS.led o ho (h1 S hS) x (h2.mono (fun k hk => hk S hS) fun _ q => q)⟩
theorem Hx.Get.mono {h : Hx} {g g' : List Int} (hg : ∀ k, k ∈ g' → k ∈ g) {x : Int} (q : h.Get g x) : h.Get g' x :=
  fun S hS => q S ⟨hS.reg, fun o ho h1 y h2 => hS.led o ho h1 y (h2.mono (fun _ q => q) hg)⟩
theorem Hx.Get.nums {h : Hx} (k : h.Ok) {g : List Int} {x : Int} (q : h.Get g x) : x ∈ h.nums :=
  q (· ∈ h.nums) ⟨k.rgs, fun o ho _ y t => by
    have ok := k.obs o ho
    cases o with
    | recd n fs => exact ok.1 y t
    | weak n t' => exact ok y t.1
    | tab n es => obtain ⟨e, h1, _⟩ := t; exact (ok.1 _ h1).2⟩
/-- the obtainable numbers, rising -/
noncomputable def Hx.obt (h : Hx) (gone : List Int) : List Int := h.nums.filter fun x => @decide (h.Get gone x) (Classical.propDecidable _)
theorem Hx.mem_obt {h : Hx} (k : h.Ok) {g : List Int} {x : Int} : x ∈ h.obt g ↔ h.Get g x := by
  unfold Hx.obt
  rw [List.mem_filter]
  simp only [decide_eq_true_eq]
  exact ⟨fun q => q.2, fun q => ⟨q.nums k, q⟩⟩
theorem Hx.obt_up {h : Hx} (k : h.Ok) {g : List Int} : (h.obt g).Pairwise (· < ·) := k.up.filter _
/-- rising lists with the same items are the same -/
theorem up_eq : ∀ {xs ys : List Int}, xs.Pairwise (· < ·) → ys.Pairwise (· < ·) → (∀ x, x ∈ xs ↔ x ∈ ys) → xs = ys
  | [], [], _, _, _ => rfl
  | [], y :: ys, _, _, h => absurd ((h y).mpr List.mem_cons_self) (by simp)
  | x :: xs, [], _, _, h => absurd ((h x).mp List.mem_cons_self) (by simp)
  | x :: xs, y :: ys, h1, h2, h => by
    rw [List.pairwise_cons] at h1 h2
    have e : x = y := by
      have a := (h x).mp List.mem_cons_self
      have b := (h y).mpr List.mem_cons_self
      rw [List.mem_cons] at a b
      rcases a with a | a
      · exact a
      · rcases b with b | b
        · exact b.symm
        · have := h2.1 x a; have := h1.1 y b; omega
    subst e
    rw [up_eq h1.2 h2.2 fun z => ?_]
    have q := h z
    rw [List.mem_cons, List.mem_cons] at q
    constructor
    · intro hz
      rcases q.mp (.inr hz) with e | e
      · have := h1.1 z hz; omega
      · exact e
    · intro hz
      rcases q.mpr (.inr hz) with e | e
      · have := h2.1 z hz; omega
      · exact e
/-- what an object leads to, as the code walks it -/
def Ob.led (o : Ob) (got gone : List Int) : List Int := match o with
  | .recd _ fs => fs.filterMap id
  | .weak _ t => match t with
    | some x => if x ∈ gone then [] else [x]
    | none => []
  | .tab _ es => (es.filter fun e => decide (e.1 ∈ got)).map (·.2)
theorem Ob.mem_led {o : Ob} {got gone : List Int} {x : Int} : x ∈ o.led got gone ↔ o.To (· ∈ got) gone x := by
  cases o with
  | recd n fs =>
    show x ∈ fs.filterMap id ↔ some x ∈ fs
    simp
  | weak n t =>
    show x ∈ (match t with | some x => if x ∈ gone then [] else [x] | none => []) ↔ t = some x ∧ x ∉ gone
    cases t with
    | none => simp
    | some y =>
      simp only [Option.some.injEq]
      split
      · rename_i q; simp; rintro rfl; exact q
      · rename_i q; simp; exact ⟨fun e => ⟨e.symm, e ▸ q⟩, fun e => e.1.symm⟩
  | tab n es =>
    show x ∈ (es.filter fun e => decide (e.1 ∈ got)).map (·.2) ↔ ∃ k, (k, x) ∈ es ∧ k ∈ got
    simp only [List.mem_map, List.mem_filter, decide_eq_true_eq]
    constructor
    · rintro ⟨e, ⟨h1, h2⟩, rfl⟩; exact ⟨e.1, h1, h2⟩
    · rintro ⟨k, h1, h2⟩; exact ⟨(k, x), ⟨h1, h2⟩, rfl⟩
/-! the plain walk of the laws -/
def growO (gone : List Int) (got : List Int) (o : Ob) : List Int := if o.num ∈ got then got ++ (o.led got gone).filter fun x => decide (x ∉ got) else got
def growH (h : Hx) (gone got : List Int) : List Int := h.objs.foldl (growO gone) got
def growN (h : Hx) (gone : List Int) : Nat → List Int → List Int
  | 0, got => got
  | n + 1, got => growN h gone n (growH h gone got)
theorem growO_sub {gone got : List Int} {o : Ob} {x : Int} (h : x ∈ got) : x ∈ growO gone got o := by
  unfold growO; split
  · exact List.mem_append_left _ h
  · exact h
theorem growF_sub {gone : List Int} {x : Int} : ∀ (os : List Ob) {got : List Int}, x ∈ got → x ∈ os.foldl (growO gone) got
  | [], _, h => h
  | o :: os, got, h => growF_sub os (growO_sub h)
theorem growN_sub {h : Hx} {gone : List Int} {x : Int} : ∀ (n : Nat) {got : List Int}, x ∈ got → x ∈ growN h gone n got
  | 0, _, q => q
  | n + 1, got, q => growN_sub n (growF_sub h.objs q)
theorem growO_get {h : Hx} {gone got : List Int} {o : Ob} (ho : o ∈ h.objs) (hg : ∀ x ∈ got, h.Get gone x) : ∀ x ∈ growO gone got o, h.Get gone x := by
  intro x hx
  unfold growO at hx
  split at hx
  · rename_i hn
    rcases List.mem_append.mp hx with q | q
    · exact hg x q
    · have t := Ob.mem_led.mp (List.mem_filter.mp q).1
      exact (h.get_shut gone).led o ho (hg _ hn) x (t.mono hg fun _ q => q)
  · exact hg x hx
theorem growF_get {h : Hx} {gone : List Int} : ∀ (os : List Ob) {got : List Int}, (∀ o ∈ os, o ∈ h.objs) → (∀ x ∈ got, h.Get gone x) → ∀ x ∈ os.foldl (growO gone) got, h.Get gone x
  | [], _, _, hg => hg
  | o :: os, got, ho, hg => growF_get os (fun p hp => ho p (List.mem_cons_of_mem _ hp)) (growO_get (ho o List.mem_cons_self) hg)
theorem growN_get {h : Hx} {gone : List Int} : ∀ (n : Nat) {got : List Int}, (∀ x ∈ got, h.Get gone x) → ∀ x ∈ growN h gone n got, h.Get gone x
  | 0, _, hg => hg
  | n + 1, got, hg => growN_get n (growF_get h.objs (fun _ q => q) hg)
/-- one turn that adds nothing new: shut -/
theorem growF_shut {gone : List Int} : ∀ (os : List Ob) {got : List Int}, (∀ x ∈ os.foldl (growO gone) got, x ∈ got) → ∀ o ∈ os, o.num ∈ got → ∀ x, o.To (· ∈ got) gone x → x ∈ got
  | [], _, _, o, ho, _, _, _ => by cases ho
  | p :: os, got, hs, o, ho, hn, x, t => by
    have e : ∀ y ∈ growO gone got p, y ∈ got := fun y hy => hs y (growF_sub os hy)
    rcases List.mem_cons.mp ho with rfl | ho
    · by_cases q : x ∈ got
      · exact q
      · refine e x ?_
        unfold growO
        rw [if_pos hn]
        exact List.mem_append_right _ (List.mem_filter.mpr ⟨Ob.mem_led.mpr t, by simpa using q⟩)
    · have := growF_shut os (got := growO gone got p) (fun y hy => growO_sub (hs y hy)) o ho (growO_sub hn) x (t.mono (fun k hk => growO_sub hk) fun _ q => q)
      exact e x this
/-- how many of the heap's numbers are got -/
def cnt (nums got : List Int) : Nat := (nums.filter fun x => decide (x ∈ got)).length
theorem cnt_le (nums got : List Int) : cnt nums got ≤ nums.length := List.length_filter_le ..
theorem cnt_mono {got got' : List Int} (h : ∀ x ∈ got, x ∈ got') : ∀ (nums : List Int), cnt nums got ≤ cnt nums got'
  | [] => Nat.le_refl _
  | n :: nums => by
    have ih := cnt_mono h nums
    unfold cnt at ih ⊢
    simp only [List.filter_cons, decide_eq_true_eq]
    by_cases a : n ∈ got
    · rw [if_pos a, if_pos (h n a)]; simp; exact ih
    · rw [if_neg a]
      split
      · simp; omega
      · exact ih
theorem cnt_lt {got got' : List Int} (h : ∀ x ∈ got, x ∈ got') {y : Int} (hy : y ∈ got') (hn : y ∉ got) : ∀ (nums : List Int), y ∈ nums → cnt nums got < cnt nums got'
  | [], q => by cases q
  | n :: nums, q => by
    have m := cnt_mono h nums
    unfold cnt at m ⊢
    simp only [List.filter_cons, decide_eq_true_eq]
    rcases List.mem_cons.mp q with rfl | q
    · rw [if_neg hn, if_pos hy]; simp; omega
    · have ih := cnt_lt h hy hn nums q
      unfold cnt at ih
      by_cases a : n ∈ got
      · rw [if_pos a, if_pos (h n a)]; simp; exact ih
      · rw [if_neg a]
        split
        · simp; omega
        · exact ih
theorem growN_shut {h : Hx} (k : h.Ok) {gone : List Int} : ∀ (n : Nat) {got : List Int}, (∀ x ∈ got, h.Get gone x) → (∀ x, some x ∈ h.regs → x ∈ got) → h.nums.length < n + cnt h.nums got → h.Shut gone (· ∈ growN h gone n got)
  | 0, got, _, _, q => absurd q (by have := cnt_le h.nums got; omega)
  | n + 1, got, hg, hr, q => by
    by_cases e : ∀ x ∈ growH h gone got, x ∈ got
    · -- nothing new from now on
      have sh : h.Shut gone (· ∈ got) := ⟨hr, growF_shut h.objs e⟩
      have stay : ∀ x, x ∈ got ↔ x ∈ growN h gone (n + 1) got := fun x => by
        refine ⟨growN_sub (n + 1), fun hx => ?_⟩
        exact growN_get (n + 1) hg x hx _ sh
      exact ⟨fun x hx => (stay x).mp (hr x hx), fun o ho h1 x t => (stay x).mp (sh.led o ho ((stay _).mpr h1) x (t.mono (fun k hk => (stay k).mpr hk) fun _ q => q))⟩
    · have ⟨y, hy⟩ : ∃ y, y ∈ growH h gone got ∧ y ∉ got := by
        apply Classical.byContradiction
        intro c
        exact e fun x hx => Classical.byContradiction fun w => c ⟨x, hx, w⟩
      have hg2 := growF_get h.objs (fun _ q => q) hg
      have lt := cnt_lt (fun x hx => growF_sub h.objs hx) hy.1 hy.2 h.nums ((hg2 y hy.1).nums k)
      have lt : cnt h.nums got < cnt h.nums (growH h gone got) := lt
      exact growN_shut k n hg2 (fun x hx => growF_sub h.objs (hr x hx)) (by omega)
theorem grow_all {h : Hx} (k : h.Ok) {gone : List Int} {x : Int} : x ∈ growN h gone (h.objs.length + 1) (h.regs.filterMap id) ↔ h.Get gone x := by
  have g0 : ∀ x ∈ h.regs.filterMap id, h.Get gone x := fun x hx => by
    refine (h.get_shut gone).reg x ?_
    simpa using hx
  refine ⟨growN_get _ g0 x, fun q => q _ (growN_shut k _ g0 (fun x hx => by simpa using hx) ?_)⟩
  unfold Hx.nums
  rw [List.length_map]
  omega
/-- .. its answer -/
theorem grow_obt {h : Hx} (k : h.Ok) {gone : List Int} : (h.nums.filter fun x => decide (x ∈ growN h gone (h.objs.length + 1) (h.regs.filterMap id))) = h.obt gone := by
  unfold Hx.obt
  refine List.filter_congr fun x _ => ?_
  rw [Bool.eq_iff_iff]
  simp only [decide_eq_true_eq]
  exact grow_all k
/-! ### a dict of numbers -/
abbrev Dn2 := List (Int × Int)
def keysI (f : List (Int × Int)) : List Int := f.map (·.1)
def putI (x v : Int) (f : List (Int × Int)) : List (Int × Int) := if x ∈ keysI f then f.map (fun p => if p.1 = x then (p.1, v) else p) else f ++ [(x, v)]
theorem keys_put (x v : Int) (f : List (Int × Int)) : keysI (putI x v f) = if x ∈ keysI f then keysI f else keysI f ++ [x] := by
  unfold putI
  split
  · unfold keysI
    rw [List.map_map]
    refine List.map_congr_left fun p _ => ?_
    show (if p.1 = x then (p.1, v) else p).1 = p.1
    split <;> rfl
  · unfold keysI; simp
theorem mem_keys_put {x v y : Int} {f : List (Int × Int)} : y ∈ keysI (putI x v f) ↔ y = x ∨ y ∈ keysI f := by
  rw [keys_put]
  split
  · rename_i h
    exact ⟨.inr, fun q => q.elim (fun e => e ▸ h) id⟩
  · rw [List.mem_append, List.mem_singleton]; exact ⟨fun q => q.symm, fun q => q.symm⟩
theorem nodup_put {x v : Int} {f : List (Int × Int)} (h : (keysI f).Nodup) : (keysI (putI x v f)).Nodup := by
  rw [keys_put]
  split
  · exact h
  · rename_i q
    rw [List.nodup_append]
    refine ⟨h, by simp, fun a ha b hb e => ?_⟩
    rw [List.mem_singleton] at hb
    exact q (hb ▸ e ▸ ha)
def putsI (xs : List Int) (v : Int) (f : List (Int × Int)) : List (Int × Int) := xs.foldl (fun f x => putI x v f) f
theorem mem_keys_puts {v y : Int} : ∀ {xs : List Int} {f : List (Int × Int)}, y ∈ keysI (putsI xs v f) ↔ y ∈ xs ∨ y ∈ keysI f
  | [], f => by simp [putsI]
  | x :: xs, f => by
    show y ∈ keysI (putsI xs v (putI x v f)) ↔ _
    rw [mem_keys_puts, mem_keys_put, List.mem_cons]
    constructor
    · rintro (h | h | h)
      · exact .inl (.inr h)
      · exact .inl (.inl h)
      · exact .inr h
    · rintro ((h | h) | h)
      · exact .inr (.inl h)
      · exact .inl h
      · exact .inr (.inr h)
theorem nodup_puts {v : Int} : ∀ {xs : List Int} {f : List (Int × Int)}, (keysI f).Nodup → (keysI (putsI xs v f)).Nodup
  | [], f, h => h
  | x :: xs, f, h => nodup_puts (xs := xs) (nodup_put h)
/-! ### rounds -/
def Hx.ob (h : Hx) (k : Int) : Ob := (h.objs.find? fun o => decide (o.num = k)).getD (.weak 0 none)
theorem Hx.ob_eq {h : Hx} (k : h.Ok) {o : Ob} (ho : o ∈ h.objs) : h.ob o.num = o := by
  have nd : (h.objs.map Ob.num).Nodup := k.nodup
  unfold Hx.ob
  have gen : ∀ (os : List Ob), o ∈ os → (os.map Ob.num).Nodup → os.find? (fun p => decide (p.num = o.num)) = some o := by
    intro os
    induction os with
    | nil => intro q; cases q
    | cons p os ih =>
      intro q nd
      rw [List.map_cons, List.nodup_cons] at nd
      rw [List.find?_cons]
      by_cases e : p.num = o.num
      · rcases List.mem_cons.mp q with q | q
        · rw [q]; simp
        · exact absurd (List.mem_map.mpr ⟨o, q, e.symm⟩) nd.1
      · rw [decide_eq_false e]
        rcases List.mem_cons.mp q with q | q
        · exact absurd (by rw [q]) e
        · exact ih q nd.2
  rw [gen h.objs ho nd]; rfl
theorem Hx.ob_num {h : Hx} {x : Int} (hx : x ∈ h.nums) : h.ob x ∈ h.objs ∧ (h.ob x).num = x := by
  unfold Hx.ob
  cases e : h.objs.find? fun o => decide (o.num = x) with
  | none =>
    rw [List.find?_eq_none] at e
    obtain ⟨o, ho, hn⟩ := List.mem_map.mp hx
    exact absurd (e o ho) (by simp [hn])
  | some o =>
    have := List.find?_some e
    exact ⟨List.mem_of_find?_eq_some e, by simpa using this⟩
def moreN (h : Hx) (gone : List Int) (f : List (Int × Int)) : List Int :=
  (keysI f).flatMap fun k => ((h.ob k).led (keysI f) gone).filter fun x => decide (x ∉ keysI f)
def rndN (h : Hx) (gone : List Int) : Nat → Int → List (Int × Int) → List (Int × Int)
  | 0, _, f => f
  | n + 1, t, f => if moreN h gone f = [] then f else rndN h gone n (t + 1) (putsI (moreN h gone f) (t + 1) f)
def rnd0 (h : Hx) : List (Int × Int) := putsI (h.regs.filterMap id) 0 []
structure RInv (h : Hx) (gone : List Int) (f : List (Int × Int)) : Prop where
  nd : (keysI f).Nodup
  get : ∀ x ∈ keysI f, h.Get gone x
  reg : ∀ x, some x ∈ h.regs → x ∈ keysI f
theorem rinv0 (h : Hx) (gone : List Int) : RInv h gone (rnd0 h) :=
  ⟨nodup_puts List.nodup_nil, (fun x hx => by
    rcases mem_keys_puts.mp hx with q | q
    · exact (h.get_shut gone).reg x (by simpa using q)
    · cases q), fun x hx => mem_keys_puts.mpr (.inl (by simpa using hx))⟩
theorem mem_more {h : Hx} {gone : List Int} {f : List (Int × Int)} {x : Int} : x ∈ moreN h gone f ↔ (∃ k ∈ keysI f, (h.ob k).To (· ∈ keysI f) gone x) ∧ x ∉ keysI f := by
  unfold moreN
  simp only [List.mem_flatMap, List.mem_filter, Ob.mem_led, decide_eq_true_eq]
  exact ⟨fun ⟨k, h1, h2, h3⟩ => ⟨⟨k, h1, h2⟩, h3⟩, fun ⟨⟨k, h1, h2⟩, h3⟩ => ⟨k, h1, h2, h3⟩⟩
theorem rinv_step {h : Hx} (k : h.Ok) {gone : List Int} {f : List (Int × Int)} {t : Int} (i : RInv h gone f) : RInv h gone (putsI (moreN h gone f) t f) :=
  ⟨nodup_puts i.nd, (fun x hx => by
    rcases mem_keys_puts.mp hx with q | q
    · obtain ⟨⟨y, h1, h2⟩, _⟩ := mem_more.mp q
      have hy := i.get y h1
      obtain ⟨h3, h4⟩ := Hx.ob_num (hy.nums k)
      refine (h.get_shut gone).led _ h3 (by rw [h4]; exact hy) x (h2.mono i.get fun _ q => q)
    · exact i.get x q), fun x hx => mem_keys_puts.mpr (.inr (i.reg x hx))⟩
theorem rinv_lt {h : Hx} (k : h.Ok) {gone : List Int} {f : List (Int × Int)} {t : Int} (i : RInv h gone f) (e : moreN h gone f ≠ []) : cnt h.nums (keysI f) < cnt h.nums (keysI (putsI (moreN h gone f) t f)) := by
  obtain ⟨y, hy⟩ := List.exists_mem_of_ne_nil _ e
  have hy2 := mem_keys_puts (v := t) (f := f).mpr (.inl hy)
  exact cnt_lt (fun x hx => mem_keys_puts.mpr (.inr hx)) hy2 (mem_more.mp hy).2 _ (((rinv_step k i).get y hy2).nums k)
theorem rinv_end {h : Hx} (k : h.Ok) {gone : List Int} {f : List (Int × Int)} (i : RInv h gone f) (e : moreN h gone f = []) : ∀ x, x ∈ keysI f ↔ h.Get gone x := fun x =>
  ⟨i.get x, fun q => q (· ∈ keysI f) ⟨i.reg, fun o ho h1 y h2 => Classical.byContradiction fun c => by
    have : y ∈ moreN h gone f := mem_more.mpr ⟨⟨o.num, h1, by rw [Hx.ob_eq k ho]; exact h2⟩, c⟩
    rw [e] at this; cases this⟩⟩
theorem rndN_ok {h : Hx} (k : h.Ok) {gone : List Int} : ∀ (n : Nat) {t : Int} {f : List (Int × Int)}, RInv h gone f → h.nums.length < n + cnt h.nums (keysI f) → (keysI (rndN h gone n t f)).Nodup ∧ ∀ x, x ∈ keysI (rndN h gone n t f) ↔ h.Get gone x
  | 0, t, f, i, q => absurd q (by have := cnt_le h.nums (keysI f); omega)
  | n + 1, t, f, i, q => by
    unfold rndN
    split
    · rename_i e
      exact ⟨i.nd, rinv_end k i e⟩
    · rename_i e
      exact rndN_ok k n (rinv_step k i) (by have := rinv_lt k (t := t + 1) i e; omega)
/-- the rounds of a heap -/
def Hx.rnd (h : Hx) (gone : List Int) : List (Int × Int) := rndN h gone 200 0 (rnd0 h)
theorem rnd_ok {h : Hx} (k : h.Ok) (gone : List Int) : (keysI (h.rnd gone)).Nodup ∧ ∀ x, x ∈ keysI (h.rnd gone) ↔ h.Get gone x :=
  rndN_ok k 200 (rinv0 h gone) (by have := k.few; omega)
/-! ### an object left out -/
def optOut (ns : List Int) (r : Option Int) : Option Int := match r with
  | some x => if x ∈ ns then none else some x
  | none => none
theorem optOut_some {ns : List Int} {r : Option Int} {x : Int} : optOut ns r = some x ↔ r = some x ∧ x ∉ ns := by
  cases r with
  | none => simp [optOut]
  | some y =>
    unfold optOut
    simp only
    split
    · rename_i h; simp; rintro rfl; exact h
    · rename_i h; simp; exact fun e => e ▸ h
def Ob.wo (ns : List Int) : Ob → Ob
  | .recd n fs => .recd n (fs.map (optOut ns))
  | .weak n t => .weak n (optOut ns t)
  | .tab n es => .tab n (es.filter fun e => decide (e.1 ∉ ns) && decide (e.2 ∉ ns))
theorem Ob.wo_num (ns : List Int) (o : Ob) : (o.wo ns).num = o.num := by cases o <;> rfl
theorem Ob.wo_to {ns : List Int} {o : Ob} {S : Int → Prop} {g : List Int} {x : Int} : (o.wo ns).To S g x ↔ o.To (fun k => S k ∧ k ∉ ns) g x ∧ x ∉ ns := by
  cases o with
  | recd n fs =>
    show some x ∈ fs.map (optOut ns) ↔ some x ∈ fs ∧ x ∉ ns
    rw [List.mem_map]
    constructor
    · rintro ⟨r, h1, h2⟩
      obtain ⟨h3, h4⟩ := optOut_some.mp h2
      exact ⟨h3 ▸ h1, h4⟩
    · rintro ⟨h1, h2⟩; exact ⟨_, h1, optOut_some.mpr ⟨rfl, h2⟩⟩
  | weak n t =>
    show optOut ns t = some x ∧ x ∉ g ↔ (t = some x ∧ x ∉ g) ∧ x ∉ ns
    rw [optOut_some]
    exact ⟨fun ⟨⟨a, b⟩, c⟩ => ⟨⟨a, c⟩, b⟩, fun ⟨⟨a, b⟩, c⟩ => ⟨⟨a, c⟩, b⟩⟩
  | tab n es =>
    show (∃ k, (k, x) ∈ es.filter _ ∧ S k) ↔ (∃ k, (k, x) ∈ es ∧ S k ∧ k ∉ ns) ∧ x ∉ ns
    simp only [List.mem_filter, Bool.and_eq_true, decide_eq_true_eq]
    exact ⟨fun ⟨k, ⟨h1, h2, h3⟩, h4⟩ => ⟨⟨k, h1, h4, h2⟩, h3⟩, fun ⟨⟨k, h1, h2, h3⟩, h4⟩ => ⟨k, ⟨h1, h3, h4⟩, h2⟩⟩
theorem Ob.wo_ok {nums ns : List Int} {o : Ob} (h : o.Ok nums) : (o.wo ns).Ok nums := by
  cases o with
  | recd n fs =>
    refine ⟨fun x hx => ?_, by rw [List.length_map]; exact h.2⟩
    obtain ⟨r, h1, h2⟩ := List.mem_map.mp hx
    exact h.1 x ((optOut_some.mp h2).1 ▸ h1)
  | weak n t => exact fun x hx => h x (optOut_some.mp hx).1
  | tab n es =>
    obtain ⟨h1, h2, h3⟩ := h
    refine ⟨fun e he => h1 e (List.mem_filter.mp he).1, ?_, Nat.le_trans (List.length_filter_le ..) h3⟩
    exact h2.sublist (List.filter_sublist.map _)
def Hx.lo (h : Hx) (ns : List Int) : Hx := ⟨h.nx, h.regs.map (optOut ns), h.kept, h.objs.map (Ob.wo ns), h.wat⟩
theorem Hx.lo_nums (h : Hx) (ns : List Int) : (h.lo ns).nums = h.nums := by
  unfold Hx.nums Hx.lo
  rw [List.map_map]
  exact List.map_congr_left fun o _ => o.wo_num ns
theorem Hx.lo_ok {h : Hx} (k : h.Ok) (ns : List Int) : (h.lo ns).Ok := by
  have e := h.lo_nums ns
  refine ⟨by rw [e]; exact k.up, fun o ho => ?_, fun x hx => ?_, by rw [e]; exact k.kpt, by rw [e]; exact k.wts, by rw [e]; exact k.pos, by rw [e]; exact k.nxt, by rw [e]; exact k.few, ?_, k.fewW⟩
  · obtain ⟨p, hp, rfl⟩ := List.mem_map.mp ho
    rw [e]; exact Ob.wo_ok (k.obs p hp)
  · obtain ⟨r, h1, h2⟩ := List.mem_map.mp hx
    rw [e]; exact k.rgs x ((optOut_some.mp h2).1 ▸ h1)
  · show (h.regs.map _).length ≤ 1000
    rw [List.length_map]; exact k.fewR
theorem Hx.lo_shut {h : Hx} {ns g : List Int} {S : Int → Prop} (hr : ∀ x, some x ∈ h.regs → x ∉ ns → S x) (hl : ∀ o ∈ h.objs, S o.num → ∀ x, x ∉ ns → o.To (fun k => S k ∧ k ∉ ns) g x → S x) : (h.lo ns).Shut g S := by
  refine ⟨fun x hx => ?_, fun o ho hn x t => ?_⟩
  · obtain ⟨r, h1, h2⟩ := List.mem_map.mp hx
    obtain ⟨h3, h4⟩ := optOut_some.mp h2
    exact hr x (h3 ▸ h1) h4
  · obtain ⟨p, hp, rfl⟩ := List.mem_map.mp ho
    rw [Ob.wo_num] at hn
    obtain ⟨t1, t2⟩ := Ob.wo_to.mp t
    exact hl p hp hn x t2 t1
theorem Hx.lo_reg {h : Hx} {ns g : List Int} {x : Int} (hx : some x ∈ h.regs) (hn : x ∉ ns) : (h.lo ns).Get g x :=
  (Hx.get_shut _ g).reg x (List.mem_map.mpr ⟨_, hx, optOut_some.mpr ⟨rfl, hn⟩⟩)
theorem Hx.lo_led {h : Hx} {ns g : List Int} {o : Ob} {x : Int} (ho : o ∈ h.objs) (hg : (h.lo ns).Get g o.num) (hn : x ∉ ns) (t : o.To (fun k => (h.lo ns).Get g k ∧ k ∉ ns) g x) : (h.lo ns).Get g x :=
  (Hx.get_shut _ g).led (o.wo ns) (List.mem_map.mpr ⟨o, ho, rfl⟩) (by rw [Ob.wo_num]; exact hg) x (Ob.wo_to.mpr ⟨t, hn⟩)
/-- without an object less is got, and it is not got itself -/
theorem Hx.lo_get {h : Hx} {ns g : List Int} {x : Int} (q : (h.lo ns).Get g x) : h.Get g x ∧ x ∉ ns := by
  refine q (fun x => h.Get g x ∧ x ∉ ns) (Hx.lo_shut (fun x hx hn => ⟨(h.get_shut g).reg x hx, hn⟩) fun o ho hs x hn t => ⟨(h.get_shut g).led o ho hs.1 x (t.mono (fun k hk => hk.1.1) fun _ q => q), hn⟩)
/-- n retains m -/
def Hx.Ret (h : Hx) (g : List Int) (n m : Int) : Prop := h.Get g n ∧ h.Get g m ∧ (m = n ∨ ¬ (h.lo [n]).Get g m)
theorem ret_anti {h : Hx} {g : List Int} {n m : Int} (e : m ≠ n) (a : h.Ret g n m) (b : h.Ret g m n) : False := by
  have a3 := a.2.2.resolve_left e
  have b3 := b.2.2.resolve_left (Ne.symm e)
  have key : ∀ x, h.Get g x → (h.lo [n]).Get g x ∧ (h.lo [m]).Get g x := fun x q => by
    refine q (fun x => (h.lo [n]).Get g x ∧ (h.lo [m]).Get g x) ⟨fun x hx => ?_, fun o ho hs x t => ?_⟩
    · have hn : x ≠ n := fun w => b3 (Hx.lo_reg (w ▸ hx) (by simpa using Ne.symm e))
      have hm : x ≠ m := fun w => a3 (Hx.lo_reg (w ▸ hx) (by simpa using e))
      exact ⟨Hx.lo_reg hx (by simpa using hn), Hx.lo_reg hx (by simpa using hm)⟩
    · have t1 : o.To (fun k => (h.lo [n]).Get g k ∧ k ∉ [n]) g x := t.mono (fun k hk => ⟨hk.1, (Hx.lo_get hk.1).2⟩) fun _ q => q
      have t2 : o.To (fun k => (h.lo [m]).Get g k ∧ k ∉ [m]) g x := t.mono (fun k hk => ⟨hk.2, (Hx.lo_get hk.2).2⟩) fun _ q => q
      have hn : x ≠ n := fun w => b3 (Hx.lo_led ho hs.2 (by simpa using Ne.symm e) (w ▸ t2))
      have hm : x ≠ m := fun w => a3 (Hx.lo_led ho hs.1 (by simpa using e) (w ▸ t1))
      exact ⟨Hx.lo_led ho hs.1 (by simpa using hn) t1, Hx.lo_led ho hs.2 (by simpa using hm) t2⟩
  exact absurd (Hx.lo_get (key n a.1).1).2 (by simp)
theorem ret_trans {h : Hx} {g : List Int} {n m p : Int} (a : h.Ret g n m) (b : h.Ret g m p) : h.Ret g n p := by
  refine ⟨a.1, b.2.1, ?_⟩
  by_cases e1 : p = n
  · exact .inl e1
  by_cases e2 : m = n
  · subst e2; exact b.2.2
  by_cases e3 : p = m
  · subst e3; exact a.2.2
  have a3 := a.2.2.resolve_left e2
  have b3 := b.2.2.resolve_left e3
  refine .inr fun q => b3 ?_
  have key : ∀ x, (h.lo [n]).Get g x → (h.lo [n]).Get g x ∧ (h.lo [m]).Get g x := fun x q => by
    refine q (fun x => (h.lo [n]).Get g x ∧ (h.lo [m]).Get g x) (Hx.lo_shut (fun x hx hn => ?_) fun o ho hs x hn t => ?_)
    · have g1 := Hx.lo_reg (g := g) hx hn
      have hm : x ≠ m := fun w => a3 (w ▸ g1)
      exact ⟨g1, Hx.lo_reg hx (by simpa using hm)⟩
    · have g1 := Hx.lo_led ho hs.1 hn (t.mono (fun k hk => ⟨hk.1.1, hk.2⟩) fun _ q => q)
      have hm : x ≠ m := fun w => a3 (w ▸ g1)
      exact ⟨g1, Hx.lo_led ho hs.2 (by simpa using hm) (t.mono (fun k hk => ⟨hk.1.2, (Hx.lo_get hk.1.2).2⟩) fun _ q => q)⟩
  exact (key p q).2
/-! ### condemnable sets -/
structure Hx.Cond (h : Hx) (S : List Int) : Prop where
  kept : ∀ x ∈ S, x ∉ h.kept
  get : ∀ x ∈ S, ¬ h.Get S x
theorem Hx.Get.congr {h : Hx} {g g' : List Int} (e : ∀ x, x ∈ g ↔ x ∈ g') {x : Int} : h.Get g x ↔ h.Get g' x :=
  ⟨Hx.Get.mono fun k hk => (e k).mpr hk, Hx.Get.mono fun k hk => (e k).mp hk⟩
theorem Hx.Cond.congr {h : Hx} {g g' : List Int} (e : ∀ x, x ∈ g ↔ x ∈ g') (c : h.Cond g) : h.Cond g' :=
  ⟨fun x hx => c.kept x ((e x).mpr hx), fun x hx q => c.get x ((e x).mpr hx) ((Hx.Get.congr e).mpr q)⟩
noncomputable def fewerN (h : Hx) (l : List Int) : List Int := l.filter fun x => decide (x ∉ h.obt l)
noncomputable def greatN (h : Hx) : Nat → List Int → List Int
  | 0, l => l
  | n + 1, l => if (fewerN h l).length = l.length then l else greatN h n (fewerN h l)
def great0 (h : Hx) (cs : List Int) : List Int := cs.filter fun x => decide (x ∉ h.kept)
structure GInv (h : Hx) (cs l : List Int) : Prop where
  sub : l.Sublist (great0 h cs)
  all : ∀ S, h.Cond S → (∀ x ∈ S, x ∈ cs) → ∀ x ∈ S, x ∈ l
theorem ginv0 (h : Hx) (cs : List Int) : GInv h cs (great0 h cs) :=
  ⟨List.Sublist.refl _, fun S c hs x hx => List.mem_filter.mpr ⟨hs x hx, by simpa using c.kept x hx⟩⟩
theorem ginv_step {h : Hx} (k : h.Ok) {cs l : List Int} (i : GInv h cs l) : GInv h cs (fewerN h l) :=
  ⟨List.filter_sublist.trans i.sub, fun S c hs x hx => List.mem_filter.mpr ⟨i.all S c hs x hx, by
    simp only [decide_eq_true_eq]
    rw [Hx.mem_obt k]
    exact fun q => c.get x hx (q.mono fun y hy => i.all S c hs y hy)⟩⟩
theorem greatN_ok {h : Hx} (k : h.Ok) {cs : List Int} : ∀ (n : Nat) {l : List Int}, GInv h cs l → l.length < n → GInv h cs (greatN h n l) ∧ h.Cond (greatN h n l)
  | 0, l, _, q => absurd q (Nat.not_lt_zero _)
  | n + 1, l, i, q => by
    unfold greatN
    split
    · rename_i e
      refine ⟨i, fun x hx => ?_, fun x hx g => ?_⟩
      · have := (List.mem_filter.mp (i.sub.subset hx)).2
        simpa using this
      · have e2 : fewerN h l = l := List.filter_sublist.eq_of_length e
        rw [← e2] at hx
        have := (List.mem_filter.mp hx).2
        simp only [decide_eq_true_eq] at this
        exact this ((Hx.mem_obt k).mpr g)
    · rename_i e
      have := (List.filter_sublist (p := fun x => decide (x ∉ h.obt l)) (l := l)).length_le
      exact greatN_ok k n (ginv_step k i) (by unfold fewerN at e ⊢; omega)
/-- the greatest condemnable set of candidates, rising -/
noncomputable def Hx.grt (h : Hx) (cs : List Int) : List Int := h.nums.filter fun x => decide (x ∈ greatN h 200 (great0 h cs))
structure GrtOk (h : Hx) (cs g : List Int) : Prop where
  sub : ∀ x ∈ g, x ∈ cs
  cond : h.Cond g
  all : ∀ S, h.Cond S → (∀ x ∈ S, x ∈ cs) → ∀ x ∈ S, x ∈ g
  up : g.Sublist h.nums
theorem grt_mem {h : Hx} {cs : List Int} (hc : ∀ x ∈ cs, x ∈ h.nums) {x : Int} (i : GInv h cs (greatN h 200 (great0 h cs))) : x ∈ h.grt cs ↔ x ∈ greatN h 200 (great0 h cs) := by
  unfold Hx.grt
  rw [List.mem_filter, decide_eq_true_eq]
  exact ⟨fun q => q.2, fun q => ⟨hc x (List.mem_filter.mp (i.sub.subset q)).1, q⟩⟩
theorem grt_ok {h : Hx} (k : h.Ok) {cs : List Int} (hc : ∀ x ∈ cs, x ∈ h.nums) (few : cs.length < 200) : GrtOk h cs (h.grt cs) := by
  obtain ⟨i, c⟩ := greatN_ok k 200 (ginv0 h cs) (by have := (List.filter_sublist (p := fun x => decide (x ∉ h.kept)) (l := cs)).length_le; unfold great0; omega)
  have e : ∀ x, x ∈ greatN h 200 (great0 h cs) ↔ x ∈ h.grt cs := fun x => (grt_mem hc i).symm
  exact ⟨fun x hx => (List.mem_filter.mp (i.sub.subset ((e x).mpr hx))).1, c.congr e, fun S hS hs x hx => (e x).mp (i.all S hS hs x hx), List.filter_sublist⟩
/-! ### data of the heaps -/
def optD : Option Int → D
  | none => .none
  | some x => .int x
def entD (e : Int × Int) : D := .tuple [.int e.1, .int e.2]
def Ob.d : Ob → D
  | .recd n fs => .tuple [.str "record", .int n, .tuple (fs.map optD)]
  | .weak n t => .tuple [.str "weak", .int n, optD t]
  | .tab n es => .tuple [.str "table", .int n, .tuple (es.map entD)]
abbrev intsT (xs : List Int) : D := .tuple (xs.map PyData.int)
def Hx.d (h : Hx) : D := .tuple [.str "heap", .int h.nx, .tuple (h.regs.map optD), intsT h.kept, .tuple (h.objs.map Ob.d), .tuple (h.wat.map entD)]
theorem ob_num (o : Ob) : idxD (.dat o.d) (.int 1) = .ok (.int o.num) := by cases o <;> rfl
def Ob.kindS : Ob → Str
  | .recd _ _ => "record"
  | .weak _ _ => "weak"
  | .tab _ _ => "table"
theorem ob_kind (o : Ob) : idxD (.dat o.d) (.int 0) = .ok (.str o.kindS) := by cases o <;> rfl
theorem recd_2 (n : Int) (fs : List (Option Int)) : idxD (.dat (Ob.recd n fs).d) (.int 2) = .ok (.tuple (fs.map optD)) := rfl
theorem weak_2 (n : Int) (t : Option Int) : idxD (.dat (Ob.weak n t).d) (.int 2) = .ok (optD t) := rfl
theorem tab_2 (n : Int) (es : List (Int × Int)) : idxD (.dat (Ob.tab n es).d) (.int 2) = .ok (.tuple (es.map entD)) := rfl
theorem hx_1 (h : Hx) : idxD (.dat h.d) (.int 1) = .ok (.int h.nx) := rfl
theorem hx_2 (h : Hx) : idxD (.dat h.d) (.int 2) = .ok (.tuple (h.regs.map optD)) := rfl
theorem hx_3 (h : Hx) : idxD (.dat h.d) (.int 3) = .ok (intsT h.kept) := rfl
theorem hx_4 (h : Hx) : idxD (.dat h.d) (.int 4) = .ok (.tuple (h.objs.map Ob.d)) := rfl
theorem hx_5 (h : Hx) : idxD (.dat h.d) (.int 5) = .ok (.tuple (h.wat.map entD)) := rfl
theorem ent_0 (e : Int × Int) : idxD (.dat (entD e)) (.int 0) = .ok (.int e.1) := rfl
theorem ent_1 (e : Int × Int) : idxD (.dat (entD e)) (.int 1) = .ok (.int e.2) := rfl
theorem opt_none (r : Option Int) : isNone (optD r) = r.isNone := by cases r <;> rfl
theorem item_tuple (xs : List D) : itemsE (.dat (.tuple xs)) = .ok xs := rfl
theorem ints_inj : ∀ {xs ys : List Int}, xs.map PyData.int = ys.map PyData.int → xs = ys
  | [], [], _ => rfl
  | [], _ :: _, h => by cases h
  | _ :: _, [], h => by cases h
  | x :: xs, y :: ys, h => by
    rw [List.map_cons, List.map_cons] at h
    injection h with h1 h2
    injection h1 with h1
    rw [h1, ints_inj h2]
/-! dicts of numbers -/
def dctI (f : List (Int × Int)) : List (D × D) := f.map fun p => (.int p.1, .int p.2)
theorem eqv_int (x y : Int) : PyData.eqv (.int x) (.int y) = decide (x = y) := rfl
theorem keys_dctI (f : List (Int × Int)) : (dctI f).map (·.1) = (keysI f).map PyData.int := by
  unfold dctI keysI; rw [List.map_map, List.map_map]; rfl
theorem look_dctI (x : Int) : ∀ (f : List (Int × Int)), lookD (.int x) (dctI f) = (f.find? fun p => decide (p.1 = x)).map fun p => PyData.int p.2
  | [] => rfl
  | p :: f => by
    have ih := look_dctI x f
    unfold lookD dctI at ih ⊢
    rw [List.map_cons, List.find?_cons, List.find?_cons]
    show Option.map _ (match PyData.eqv (.int p.1) (.int x) with | true => _ | false => _) = _
    rw [eqv_int]
    cases decide (p.1 = x) with
    | true => rfl
    | false => exact ih
theorem find_keys (x : Int) : ∀ (f : List (Int × Int)), (f.find? fun p => decide (p.1 = x)).isSome = decide (x ∈ keysI f)
  | [] => rfl
  | p :: f => by
    rw [List.find?_cons]
    unfold keysI
    rw [List.map_cons]
    by_cases e : p.1 = x
    · rw [decide_eq_true e]; simp [e]
    · rw [decide_eq_false e]
      show (f.find? fun p => decide (p.1 = x)).isSome = _
      rw [find_keys x f, Bool.eq_iff_iff]
      simp only [decide_eq_true_eq, List.mem_cons]
      exact ⟨.inr, fun q => q.elim (fun q => absurd q.symm e) id⟩
theorem mem_dctI (x : Int) (f : List (Int × Int)) : memD (.int x) (.dct (dctI f)) = .ok (decide (x ∈ keysI f)) := by
  show guardR true (.ok (lookD (.int x) (dctI f)).isSome) = _
  rw [grd_true, look_dctI, Option.isSome_map, find_keys]
theorem any_dctI (x : Int) (f : List (Int × Int)) : ((dctI f).any fun p => PyData.eqv p.1 (.int x)) = decide (x ∈ keysI f) := by
  induction f with
  | nil => rfl
  | cons p f ih =>
    show (PyData.eqv (.int p.1) (.int x) || (dctI f).any fun p => PyData.eqv p.1 (.int x)) = _
    rw [ih, eqv_int, Bool.eq_iff_iff]
    unfold keysI
    simp only [Bool.or_eq_true, decide_eq_true_eq, List.map_cons, List.mem_cons]
    exact ⟨fun q => q.imp Eq.symm id, fun q => q.imp Eq.symm id⟩
theorem put_dctI (x v : Int) (f : List (Int × Int)) : putD (.int x) (.int v) (dctI f) = dctI (putI x v f) := by
  unfold putD
  rw [any_dctI]
  unfold putI
  by_cases h : x ∈ keysI f
  · rw [if_pos (by simpa using h), if_pos h]
    unfold dctI
    rw [List.map_map, List.map_map]
    refine List.map_congr_left fun p _ => ?_
    show (if PyData.eqv (.int p.1) (.int x) = true then _ else _) = _
    rw [eqv_int]
    by_cases e : p.1 = x
    · rw [if_pos (by simpa using e)]
      show (PyData.int p.1, PyData.int v) = ((.int (if p.1 = x then (p.1, v) else p).1), .int (if p.1 = x then (p.1, v) else p).2)
      rw [if_pos e]
    · rw [if_neg (by simpa using e)]
      show (PyData.int p.1, PyData.int p.2) = ((.int (if p.1 = x then (p.1, v) else p).1), .int (if p.1 = x then (p.1, v) else p).2)
      rw [if_neg e]
  · rw [if_neg (by simpa using h), if_neg h]
    unfold dctI
    rw [List.map_append]
    rfl
/-- the objects by their numbers -/
def dctO (os : List Ob) : List (D × D) := os.map fun o => (.int o.num, o.d)
theorem any_dctO (x : Int) : ∀ (os : List Ob), ((dctO os).any fun p => PyData.eqv p.1 (.int x)) = decide (x ∈ os.map Ob.num)
  | [] => rfl
  | o :: os => by
    show (PyData.eqv (.int o.num) (.int x) || (dctO os).any fun p => PyData.eqv p.1 (.int x)) = _
    rw [any_dctO x os, eqv_int, Bool.eq_iff_iff]
    simp only [Bool.or_eq_true, decide_eq_true_eq, List.map_cons, List.mem_cons]
    exact ⟨fun q => q.imp Eq.symm id, fun q => q.imp Eq.symm id⟩
theorem put_dctO {o : Ob} {os : List Ob} (h : o.num ∉ os.map Ob.num) : putD (.int o.num) o.d (dctO os) = dctO (os ++ [o]) := by
  unfold putD
  rw [any_dctO, if_neg (by simpa using h)]
  unfold dctO
  rw [List.map_append]; rfl
theorem look_dctO {x : Int} : ∀ {os : List Ob}, lookD (.int x) (dctO os) = (os.find? fun o => decide (o.num = x)).map Ob.d
  | [] => rfl
  | o :: os => by
    have ih := look_dctO (x := x) (os := os)
    unfold lookD dctO at ih ⊢
    rw [List.map_cons, List.find?_cons, List.find?_cons]
    show Option.map _ (match PyData.eqv (.int o.num) (.int x) with | true => _ | false => _) = _
    rw [eqv_int]
    cases decide (o.num = x) with
    | true => rfl
    | false => exact ih
theorem look_ob {h : Hx} {x : Int} (hx : x ∈ h.nums) : lookD (.int x) (dctO h.objs) = some (h.ob x).d := by
  rw [look_dctO]
  unfold Hx.ob
  cases e : h.objs.find? fun o => decide (o.num = x) with
  | some o => rfl
  | none =>
    rw [List.find?_eq_none] at e
    obtain ⟨o, ho, hn⟩ := List.mem_map.mp hx
    exact absurd (e o ho) (by simp [hn])
/-! ### loops over data of one's own -/
section
variable {α : Type} {p : Pt} {own : List Nat} {ρ : Sv}
theorem loopC_g {c : Sv → R (Bool × Sv)} {f : Sv → R (D × Sv)} (enc : α → D) (bnd : α → Sv) (q : α → Bool) (g : α → D) : ∀ (xs : List α), (∀ x ∈ xs, bindP p (.im (enc x)) ρ = .ok (bnd x) ∧ c (bnd x) = .ok (q x, bnd x) ∧ (q x = true → f (bnd x) = .ok (g x, bnd x)) ∧ wipeS (bnd x) own = ρ) →
    loopC p c f own (xs.map enc) ρ = .ok ((xs.filter q).map g, ρ)
  | [], _ => rfl
  | x :: xs, h => by
    obtain ⟨h1, h2, h3, h4⟩ := h x List.mem_cons_self
    have ih := loopC_g enc bnd q g xs (fun y hy => h y (List.mem_cons_of_mem _ hy))
    rw [List.map_cons]
    unfold loopC
    rw [h1, R.ok_bind, h2, R.ok_bind]
    cases e : q x with
    | true =>
      show (f (bnd x) >>= fun r3 => loopC p c f own (xs.map enc) (wipeS r3.2 own) >>= fun r4 => R.ok (r3.1 :: r4.1, r4.2)) = _
      rw [h3 e, R.ok_bind, h4, ih, List.filter_cons_of_pos e]
      rfl
    | false =>
      show loopC p c f own (xs.map enc) (wipeS (bnd x) own) = _
      rw [h4, ih, List.filter_cons_of_neg (by rw [e]; exact Bool.false_ne_true)]
theorem loopCC_g {c : Sv → R (Bool × Sv)} {f : Sv → R (List D × Sv)} (enc : α → D) (bnd : α → Sv) (q : α → Bool) (g : α → List D) : ∀ (xs : List α), (∀ x ∈ xs, bindP p (.im (enc x)) ρ = .ok (bnd x) ∧ c (bnd x) = .ok (q x, bnd x) ∧ (q x = true → f (bnd x) = .ok (g x, bnd x)) ∧ wipeS (bnd x) own = ρ) →
    loopCC p c f own (xs.map enc) ρ = .ok ((xs.filter q).flatMap g, ρ)
  | [], _ => rfl
  | x :: xs, h => by
    obtain ⟨h1, h2, h3, h4⟩ := h x List.mem_cons_self
    have ih := loopCC_g enc bnd q g xs (fun y hy => h y (List.mem_cons_of_mem _ hy))
    rw [List.map_cons]
    unfold loopCC
    rw [h1, R.ok_bind, h2, R.ok_bind]
    cases e : q x with
    | true =>
      show (f (bnd x) >>= fun r3 => loopCC p c f own (xs.map enc) (wipeS r3.2 own) >>= fun r4 => R.ok (r3.1 ++ r4.1, r4.2)) = _
      rw [h3 e, R.ok_bind, h4, ih, List.filter_cons_of_pos e, List.flatMap_cons]
      rfl
    | false =>
      show loopCC p c f own (xs.map enc) (wipeS (bnd x) own) = _
      rw [h4, ih, List.filter_cons_of_neg (by rw [e]; exact Bool.false_ne_true)]
theorem loopD_g {c : Sv → R (Bool × Sv)} {f : Sv → R ((D × D) × Sv)} {β : Type} (enc : α → D) (bnd : α → Sv) (kv : α → D × D) (I : β → List (D × D)) (st : β → α → β) : ∀ (xs : List α) (b : β), (∀ x ∈ xs, bindP p (.im (enc x)) ρ = .ok (bnd x) ∧ c (bnd x) = .ok (true, bnd x) ∧ f (bnd x) = .ok (kv x, bnd x) ∧ wipeS (bnd x) own = ρ ∧ isKey (kv x).1 = true) →
    (∀ ys x zs, xs = ys ++ x :: zs → putD (kv x).1 (kv x).2 (I (ys.foldl st b)) = I ((ys ++ [x]).foldl st b)) →
    loopD p c f own (xs.map enc) (I b) ρ = .ok (I (xs.foldl st b), ρ)
  | [], b, _, _ => rfl
  | x :: xs, b, h, hp => by
    obtain ⟨h1, h2, h3, h4, h5⟩ := h x List.mem_cons_self
    have e := hp [] x xs rfl
    have ih := loopD_g enc bnd kv I st xs (st b x) (fun y hy => h y (List.mem_cons_of_mem _ hy)) (fun ys y zs e2 => by
      have := hp (x :: ys) y zs (by rw [e2]; rfl)
      exact this)
    rw [List.map_cons]
    unfold loopD
    rw [h1, R.ok_bind, h2, R.ok_bind]
    show (f (bnd x) >>= fun r3 => guardR (isKey r3.1.1) (loopD p c f own (xs.map enc) (putD r3.1.1 r3.1.2 (I b)) (wipeS r3.2 own))) = _
    rw [h3, R.ok_bind, h5, grd_true, h4]
    have e2 : putD (kv x).1 (kv x).2 (I b) = I (st b x) := e
    rw [e2, ih]
    rfl
theorem loopAny_g {b : Bool} {c : Sv → R (Bool × Sv)} {f : Sv → R (Bool × Sv)} (enc : α → D) (bnd : α → Sv) (q : α → Bool) (g : α → Bool) : ∀ (xs : List α), (∀ x ∈ xs, bindP p (.im (enc x)) ρ = .ok (bnd x) ∧ c (bnd x) = .ok (q x, bnd x) ∧ (q x = true → f (bnd x) = .ok (g x, bnd x)) ∧ wipeS (bnd x) own = ρ) →
    ∃ ρ', loopAny b p c f own (xs.map enc) ρ = .ok (if ((xs.filter q).any fun x => g x == b) = true then b else !b, ρ') ∧ (ρ' = ρ ∨ ∃ x ∈ xs, ρ' = bnd x)
  | [], _ => ⟨ρ, rfl, .inl rfl⟩
  | x :: xs, h => by
    obtain ⟨h1, h2, h3, h4⟩ := h x List.mem_cons_self
    obtain ⟨ρ', ih, hr⟩ := loopAny_g (b := b) enc bnd q g xs (fun y hy => h y (List.mem_cons_of_mem _ hy))
    have hr2 : ρ' = ρ ∨ ∃ y ∈ x :: xs, ρ' = bnd y := hr.imp id fun ⟨y, hy, e⟩ => ⟨y, List.mem_cons_of_mem _ hy, e⟩
    rw [List.map_cons]
    unfold loopAny
    rw [h1, R.ok_bind, h2, R.ok_bind]
    cases e : q x with
    | true =>
      rw [List.filter_cons_of_pos e, List.any_cons]
      show ∃ ρ', (f (bnd x) >>= fun r3 => if r3.1 = b then R.ok (b, r3.2) else loopAny b p c f own (xs.map enc) (wipeS r3.2 own)) = _ ∧ _
      rw [h3 e, R.ok_bind]
      by_cases hb : g x = b
      · rw [if_pos hb]
        refine ⟨bnd x, ?_, .inr ⟨x, List.mem_cons_self, rfl⟩⟩
        rw [beq_iff_eq.mpr hb, Bool.true_or, if_pos rfl]
      · rw [if_neg hb, h4, ih]
        refine ⟨ρ', ?_, hr2⟩
        rw [beq_eq_false_iff_ne.mpr hb, Bool.false_or]
    | false =>
      refine ⟨ρ', ?_, hr2⟩
      show loopAny b p c f own (xs.map enc) (wipeS (bnd x) own) = _
      rw [h4, ih, List.filter_cons_of_neg (by rw [e]; exact Bool.false_ne_true)]
/-- a for: what a turn makes of the state -/
theorem loopF_g {σ : Type} {b : Sv → Out} (enc : α → D) (I : σ → Sv → Prop) (st : σ → α → σ) : ∀ (xs : List α), (∀ x ∈ xs, ∀ s ρ, I s ρ → ∃ ρ1 ρ2, bindP p (.im (enc x)) ρ = .ok ρ1 ∧ b ρ1 = .nx ρ2 ∧ I (st s x) ρ2) → ∀ s ρ, I s ρ → ∃ ρ', loopF p b (xs.map enc) ρ = .nx ρ' ∧ I (xs.foldl st s) ρ'
  | [], _, s, ρ, hI => ⟨ρ, rfl, hI⟩
  | x :: xs, h, s, ρ, hI => by
    obtain ⟨ρ1, ρ2, h1, h2, h3⟩ := h x List.mem_cons_self s ρ hI
    obtain ⟨ρ', h4, h5⟩ := loopF_g enc I st xs (fun y hy => h y (List.mem_cons_of_mem _ hy)) _ ρ2 h3
    refine ⟨ρ', ?_, h5⟩
    rw [List.map_cons]
    unfold loopF
    rw [h1, R.ok_out]
    show (match b ρ1 with | .nx ρ2 => loopF p b (xs.map enc) ρ2 | .cnt ρ2 => loopF p b (xs.map enc) ρ2 | .brk ρ2 => .nx ρ2 | o => o) = _
    rw [h2]
    exact h4
end
/-- .. over the turns of a range, whose number is not read -/
theorem loopF_n {σ : Type} {j : Nat} {b : Sv → Out} (I : σ → Sv → Prop) (st : σ → σ) (h : ∀ (i : Int) s ρ, I s ρ → ∃ ρ2, b (ρ.set j (some (.im (.int i)))) = .nx ρ2 ∧ I (st s) ρ2) : ∀ (n : Nat) (lo : Int) s ρ, I s ρ → ∃ ρ', loopF (.v j) b (rangeD lo n) ρ = .nx ρ' ∧ I (Nat.repeat st n s) ρ'
  | 0, _, s, ρ, hI => ⟨ρ, rfl, hI⟩
  | n + 1, lo, s, ρ, hI => by
    obtain ⟨ρ2, h2, h3⟩ := h lo s ρ hI
    obtain ⟨ρ', h4, h5⟩ := loopF_n I st h n (lo + 1) _ ρ2 h3
    refine ⟨ρ', ?_, ?_⟩
    · unfold rangeD loopF
      rw [bp_im, R.ok_out]
      show (match b (ρ.set j (some (.im (.int lo)))) with | .nx ρ2 => loopF (.v j) b (rangeD (lo + 1) n) ρ2 | .cnt ρ2 => loopF (.v j) b (rangeD (lo + 1) n) ρ2 | .brk ρ2 => .nx ρ2 | o => o) = _
      rw [h2]
      exact h4
    · have : ∀ (n : Nat) s, Nat.repeat st n (st s) = Nat.repeat st (n + 1) s := fun n => by
        induction n with
        | zero => intro s; rfl
        | succ n ih => intro s; show st (Nat.repeat st n (st s)) = st (Nat.repeat st (n + 1) s); rw [ih]
      rw [← this]; exact h5
theorem mem_ints {x : Int} {xs : List Int} : memD (.int x) (.dat (intsT xs)) = .ok (decide (x ∈ xs)) := mem_intsT
/-- rising lists of numbers, sorted -/
theorem sort_ints {xs ys : List Int} (nd : xs.Nodup) (up : ys.Pairwise (· < ·)) (h : ∀ x, x ∈ xs ↔ x ∈ ys) : (xs.map PyData.int).mergeSort leD = ys.map PyData.int := by
  have e1 : (xs.map PyData.int).mergeSort leD = (xs.mergeSort fun a b => decide (a ≤ b)).map PyData.int := by
    exact (List.map_mergeSort (f := PyData.int) (r := fun a b => decide (a ≤ b)) (s := leD) fun a _ b _ => rfl).symm
  rw [e1]
  congr 1
  have tr : ∀ a b c : Int, decide (a ≤ b) = true → decide (b ≤ c) = true → decide (a ≤ c) = true := by
    intro a b c; simp only [decide_eq_true_eq]; omega
  have tt : ∀ a b : Int, (decide (a ≤ b) || decide (b ≤ a)) = true := by
    intro a b; simp only [Bool.or_eq_true, decide_eq_true_eq]; omega
  have s1 := List.pairwise_mergeSort tr tt xs
  have pm := List.mergeSort_perm xs fun a b => decide (a ≤ b)
  have nd2 : (xs.mergeSort fun a b => decide (a ≤ b)).Nodup := pm.nodup_iff.mpr nd
  refine up_eq ?_ up fun x => by rw [pm.mem_iff, h]
  have := s1.and nd2
  refine this.imp fun ⟨h1, h2⟩ => ?_
  simp only [decide_eq_true_eq] at h1
  have : _ ≠ _ := h2
  omega
theorem all_int (xs : List Int) : (xs.map PyData.int).all isIntD = true := by
  rw [List.all_eq_true]
  intro x hx
  obtain ⟨y, _, rfl⟩ := List.mem_map.mp hx
  rfl
theorem r62_int {i : Int} (h0 : 0 ≤ i) (h : i ≤ 100000) : range62 i = true := by unfold range62; simp only [decide_eq_true_eq]; omega
theorem r62_nat {n : Nat} (h : n ≤ 100000) : range62 (n : Int) = true := r62_int (by omega) (by omega)
theorem isN_none : isNone .none = true := rfl
theorem isN_bool {b : Bool} : isNone (.bool b) = false := rfl
theorem isN_int {i : Int} : isNone (.int i) = false := rfl
theorem isN_str {x : Str} : isNone (.str x) = false := rfl
theorem isN_tuple {xs : List D} : isNone (.tuple xs) = false := rfl
theorem isN_list {xs : List D} : isNone (.list xs) = false := rfl
theorem filter_all {α : Type} (l : List α) : l.filter (fun _ => true) = l := List.filter_eq_self.mpr fun _ _ => rfl
theorem nums_map (os : List Ob) : (os.map fun o => PyData.int o.num) = (os.map Ob.num).map PyData.int := by rw [List.map_map]; rfl
theorem opt_held : ∀ (rs : List (Option Int)), (rs.filter fun r => !r.isNone).map optD = (rs.filterMap id).map PyData.int
  | [] => rfl
  | none :: rs => by
    rw [List.filter_cons_of_neg (by simp), opt_held rs]; rfl
  | some x :: rs => by
    rw [List.filter_cons_of_pos (by simp), List.map_cons, opt_held rs]; rfl
theorem foldl_snoc {α : Type} : ∀ (ys b : List α), ys.foldl (fun os o => os ++ [o]) b = b ++ ys
  | [], b => (List.append_nil b).symm
  | y :: ys, b => by rw [List.foldl_cons, foldl_snoc ys, List.append_assoc]; rfl
theorem nodup_len : ∀ {xs ys : List Int}, xs.Nodup → (∀ x ∈ xs, x ∈ ys) → xs.length ≤ ys.length
  | [], _, _, _ => Nat.zero_le _
  | x :: xs, ys, nd, h => by
    rw [List.nodup_cons] at nd
    have hx := h x List.mem_cons_self
    have := nodup_len (ys := ys.erase x) nd.2 fun y hy => by
      have ne : y ≠ x := fun e => nd.1 (e ▸ hy)
      exact (List.mem_erase_of_ne ne).mpr (h y (List.mem_cons_of_mem _ hy))
    rw [List.length_erase_of_mem hx] at this
    have pos : 0 < ys.length := List.length_pos_of_mem hx
    rw [List.length_cons]
    omega
/-- numbers as a def's parameter: a list or a tuple that is read -/
def IntsP (s : Sl) (ns : List Int) : Prop := s = .bor (.lst (ns.map PyData.int)) ∨ s = .im (.tuple (ns.map PyData.int)) ∨ s = .im (.list (ns.map PyData.int))
namespace IntsP
variable {s : Sl} {ns : List Int} (h : IntsP s ns)
include h
theorem mem {x : Int} : memD (.int x) s.cn = .ok (decide (x ∈ ns)) := by rcases h with rfl | rfl | rfl <;> first | exact mem_intsL | exact mem_intsT
theorem items {ρ : Sv} {i : Nat} : itemsS ρ i s.cn = .ok (ns.map PyData.int) := by rcases h with rfl | rfl | rfl <;> rfl
theorem itemsE : itemsE s.cn = .ok (ns.map PyData.int) := by rcases h with rfl | rfl | rfl <;> rfl
theorem bor : borF (some (some s)) = .ok s := by rcases h with rfl | rfl | rfl <;> rfl
theorem lk {ρ : Sv} {i : Nat} : lkF (some (some s)) ρ i = ρ := by rcases h with rfl | rfl | rfl <;> rfl
theorem un {ρ : Sv} {i : Nat} : unF (some (some s)) (some (some s)) ρ i = ρ := by rcases h with rfl | rfl | rfl <;> rfl
theorem fin {ρ : Sv} {i : Nat} {ss : List Sl} : finals ρ i (s :: ss) = finals ρ (i + 1) ss := by rcases h with rfl | rfl | rfl <;> rfl
theorem len : lenC s.cn = .ok (.int ns.length) := by rcases h with rfl | rfl | rfl <;> simp [lenC, Sl.cn, Ct.cn]
end IntsP
theorem intsP_t (ns : List Int) : IntsP (.im (intsT ns)) ns := .inr (.inl rfl)
theorem intsP_b (ns : List Int) : IntsP (.bor (.lst (ns.map PyData.int))) ns := .inl rfl
theorem intsP_l (ns : List Int) : IntsP (.im (.list (ns.map PyData.int))) ns := .inr (.inr rfl)
/-- a for, by what has been walked -/
theorem loopF_t {α : Type} {p : Pt} {b : Sv → Out} (enc : α → D) (I : List α → Sv → Prop) : ∀ (xs pre : List α), (∀ ys x zs ρ, pre ++ xs = ys ++ x :: zs → pre.length ≤ ys.length → I ys ρ → ∃ ρ1 ρ2, bindP p (.im (enc x)) ρ = .ok ρ1 ∧ b ρ1 = .nx ρ2 ∧ I (ys ++ [x]) ρ2) → ∀ ρ, I pre ρ → ∃ ρ', loopF p b (xs.map enc) ρ = .nx ρ' ∧ I (pre ++ xs) ρ'
  | [], pre, _, ρ, hI => ⟨ρ, rfl, by rw [List.append_nil]; exact hI⟩
  | x :: xs, pre, h, ρ, hI => by
    obtain ⟨ρ1, ρ2, h1, h2, h3⟩ := h pre x xs ρ rfl (Nat.le_refl _) hI
    obtain ⟨ρ', h4, h5⟩ := loopF_t enc I xs (pre ++ [x]) (fun ys y zs ρ e l hy => h ys y zs ρ (by rw [← e, List.append_assoc]; rfl) (by rw [List.length_append] at l; omega) hy) ρ2 h3
    refine ⟨ρ', ?_, by rw [List.append_assoc] at h5; exact h5⟩
    rw [List.map_cons]
    unfold loopF
    rw [h1, R.ok_out]
    show (match b ρ1 with | .nx ρ2 => loopF p b (xs.map enc) ρ2 | .cnt ρ2 => loopF p b (xs.map enc) ρ2 | .brk ρ2 => .nx ρ2 | o => o) = _
    rw [h2]
    exact h4
theorem loopF_t0 {α : Type} {p : Pt} {b : Sv → Out} (enc : α → D) (I : List α → Sv → Prop) (xs : List α) (h : ∀ ys x zs ρ, xs = ys ++ x :: zs → I ys ρ → ∃ ρ1 ρ2, bindP p (.im (enc x)) ρ = .ok ρ1 ∧ b ρ1 = .nx ρ2 ∧ I (ys ++ [x]) ρ2) (ρ : Sv) (h0 : I [] ρ) : ∃ ρ', loopF p b (xs.map enc) ρ = .nx ρ' ∧ I xs ρ' :=
  loopF_t enc I xs [] (fun ys x zs ρ e _ hy => h ys x zs ρ e hy) ρ h0
/-- a for that changes nothing but its name -/
theorem loopF_0 {α : Type} {p : Pt} {b : Sv → Out} (enc : α → D) (I : Sv → Prop) (xs : List α) (h : ∀ x ∈ xs, ∀ ρ, I ρ → ∃ ρ1 ρ2, bindP p (.im (enc x)) ρ = .ok ρ1 ∧ b ρ1 = .nx ρ2 ∧ I ρ2) (ρ : Sv) (h0 : I ρ) : ∃ ρ', loopF p b (xs.map enc) ρ = .nx ρ' ∧ I ρ' :=
  loopF_g (σ := Unit) enc (fun _ ρ => I ρ) (fun _ _ => ()) xs (fun x hx _ ρ hI => h x hx ρ hI) () ρ h0
theorem eq_opt (r : Option Int) (n : Int) : cmpD .eq (optD r) (.int n) = .ok (decide (r = some n)) := by
  cases r with
  | none => rfl
  | some x =>
    rw [show optD (some x) = .int x from rfl, c_eq]
    congr 1
    rw [Bool.eq_iff_iff]
    simp
theorem any_none (xs : List Int) : ((xs.map PyData.int).any fun z => PyData.eqv z .none) = false := by
  rw [List.any_eq_false]
  intro x hx
  obtain ⟨y, _, rfl⟩ := List.mem_map.mp hx
  exact fun z => by cases z
def optIn (ns : List Int) (r : Option Int) : Bool := match r with
  | some x => decide (x ∈ ns)
  | none => false
theorem mem_opt {s : Sl} {ns : List Int} (h : IntsP s ns) (r : Option Int) : memD (optD r) s.cn = .ok (optIn ns r) := by
  cases r with
  | some x => exact h.mem
  | none =>
    have key : ∀ c : Cn, c = .dat (.list (ns.map PyData.int)) ∨ c = .dat (.tuple (ns.map PyData.int)) → memD .none c = .ok false := by
      rintro c (rfl | rfl)
      · show guardR (decide (min (PyData.depthAll (ns.map PyData.int)) (PyData.none).depth ≤ 59)) (.ok ((ns.map PyData.int).any fun z => PyData.eqv z .none)) = _
        have : (PyData.none).depth ≤ 59 := by show 0 ≤ 59; omega
        rw [decide_eq_true (by omega), grd_true, any_none]
      · show guardR (decide (min (PyData.depthAll (ns.map PyData.int)) (PyData.none).depth ≤ 59)) (.ok ((ns.map PyData.int).any fun z => PyData.eqv z .none)) = _
        have : (PyData.none).depth ≤ 59 := by show 0 ≤ 59; omega
        rw [decide_eq_true (by omega), grd_true, any_none]
    exact key _ (by rcases h with rfl | rfl | rfl <;> simp [Sl.cn, Ct.cn])
theorem optOut_if (ns : List Int) (r : Option Int) : optD (optOut ns r) = if optIn ns r = true then .none else optD r := by
  cases r with
  | none => rfl
  | some x =>
    unfold optOut optIn
    by_cases h : x ∈ ns
    · simp only [if_pos h, decide_eq_true h, if_true]; rfl
    · simp only [if_neg h, decide_eq_false h, Bool.false_eq_true, if_false]
theorem optIn_one (n : Int) (r : Option Int) : optIn [n] r = decide (r = some n) := by
  cases r with
  | none => rfl
  | some x => unfold optIn; simp only [List.mem_singleton, Option.some.injEq]
theorem ob_cut2 (o : Ob) : sliceC (.dat o.d) none (some 2) = .ok (.im (.tuple [.str o.kindS, .int o.num])) := by cases o <;> rfl
theorem hx_cut2 (h : Hx) : sliceC (.dat h.d) none (some 2) = .ok (.im (.tuple [.str "heap", .int h.nx])) := rfl
theorem add21 (a b c : D) : binD .add (.tuple [a, b]) (.tuple [c]) = .ok (.tuple [a, b, c]) := rfl
theorem hx_d (h : Hx) : h.d = .tuple [.str "heap", .int h.nx, .tuple (h.regs.map optD), intsT h.kept, .tuple (h.objs.map Ob.d), .tuple (h.wat.map entD)] := rfl
/-- a dict whose keys are numbers -/
theorem any_keys {β : Type} (key : β → Int) (val : β → D) (x : Int) : ∀ (l : List β), ((l.map fun b => (PyData.int (key b), val b)).any fun p => PyData.eqv p.1 (.int x)) = decide (x ∈ l.map key)
  | [] => rfl
  | b :: l => by
    rw [List.map_cons, List.any_cons, any_keys key val x l]
    show (PyData.eqv (.int (key b)) (.int x) || _) = _
    rw [eqv_int, Bool.eq_iff_iff]
    simp only [Bool.or_eq_true, decide_eq_true_eq, List.map_cons, List.mem_cons]
    exact ⟨fun q => q.imp Eq.symm id, fun q => q.imp Eq.symm id⟩
theorem put_new {β : Type} (key : β → Int) (val : β → D) {b : β} {l : List β} (h : key b ∉ l.map key) : putD (.int (key b)) (val b) (l.map fun b => (PyData.int (key b), val b)) = (l ++ [b]).map fun b => (PyData.int (key b), val b) := by
  unfold putD
  rw [any_keys, if_neg (by simpa using h), List.map_append]; rfl
theorem look_key {β : Type} (key : β → Int) (val : β → D) {b : β} : ∀ {l : List β}, (l.map key).Nodup → b ∈ l → lookD (.int (key b)) (l.map fun b => (PyData.int (key b), val b)) = some (val b)
  | [], _, h => by cases h
  | c :: l, nd, h => by
    unfold lookD
    rw [List.map_cons, List.find?_cons]
    show Option.map _ (match PyData.eqv (.int (key c)) (.int (key b)) with | true => _ | false => _) = _
    rw [eqv_int]
    rw [List.map_cons, List.nodup_cons] at nd
    by_cases e : key c = key b
    · rw [decide_eq_true e]
      rcases List.mem_cons.mp h with rfl | h
      · rfl
      · exact absurd (List.mem_map.mpr ⟨b, h, e.symm⟩) nd.1
    · rw [decide_eq_false e]
      rcases List.mem_cons.mp h with rfl | h
      · exact absurd rfl e
      · exact look_key key val nd.2 h
end Wk

set_option Elab.async false
set_option linter.all false
set_option maxRecDepth 100000
set_option maxHeartbeats 0
namespace K23
open PySem PySem.Spec PyProof.Rows L2 Wk
def i_make_heap : Nat := 0
def i_numbers_of : Nat := 1
def i_by_number : Nat := 2
def i_held_in : Nat := 3
def i_led_to : Nat := 4
def i_rounds : Nat := 5
def i_obtainable : Nat := 6
def i_reachable : Nat := 7
def i_without : Nat := 8
def i_left_out : Nat := 9
def i_retained : Nat := 10
def i_dominators : Nat := 11
def i_law_cell : Nat := 12
def i_law_digits : Nat := 13
def i_law_box : Nat := 14
def i_law_draw : Nat := 15
def i_law_number : Nat := 16
def i_law_object : Nat := 17
def i_law_heap : Nat := 18
def i_law_numbers : Nat := 19
def i_law_follows : Nat := 20
def i_law_obtainable : Nat := 21
def i_law_same : Nat := 22
def i_law_left_out : Nat := 23
def i_law : Nat := 24
def b_make_heap : Ss := (.cons (.ret (.tup (.cons (.lit (.str "heap")) (.cons (.var 0) (.cons (.var 1) (.cons (.var 2) (.cons (.var 3) (.cons (.var 4) .nil))))))))
 .nil)
def e_numbers_of_0 : E := (.idx (.s 1) (.lit (.int 1)))
def b_numbers_of : Ss := (.cons (.ret (.gen .tup e_numbers_of_0 (.v 1) (.it (.e (.idx (.s 0) (.glb "OBJECTS" (.int 4))))) .no [1]))
 .nil)
def e_by_number_0 : E := (.idx (.s 1) (.lit (.int 1)))
def e_by_number_1 : E := (.var 1)
def b_by_number : Ss := (.cons (.ret (.dc e_by_number_0 e_by_number_1 (.v 1) (.it (.e (.idx (.s 0) (.glb "OBJECTS" (.int 4))))) .no [1]))
 .nil)
def e_held_in_0 : E := (.var 1)
def c_held_in_1 : Eo := (.so (.isn true (.var 1)))
def b_held_in : Ss := (.cons (.ret (.lc e_held_in_0 (.v 1) (.it (.s 0)) c_held_in_1 [1]))
 .nil)
def e_led_to_0 : E := (.var 4)
def c_led_to_1 : Eo := (.so (.mem false (.var 3) (.s 1)))
def b_led_to : Ss := (.cons (.iff (.cmp .eq (.idx (.s 0) (.lit (.int 0))) (.lit (.str "record")))
 (.cons (.ret (.call i_held_in (.e (.idx (.s 0) (.lit (.int 2))) .nil)))
 .nil)
 .nil)
 (.cons (.iff (.cmp .eq (.idx (.s 0) (.lit (.int 0))) (.lit (.str "table")))
 (.cons (.ret (.lc e_led_to_0 (.t [(.v 3), (.v 4)]) (.it (.e (.idx (.s 0) (.lit (.int 2))))) c_led_to_1 [3, 4]))
 .nil)
 .nil)
 (.cons (.ret (.ite (.or (.isn false (.idx (.s 0) (.lit (.int 2)))) (.mem false (.idx (.s 0) (.lit (.int 2))) (.s 2))) (.lst .nil) (.lst (.cons (.idx (.s 0) (.lit (.int 2))) .nil))))
 .nil)))
def e_rounds_0 : E := (.lit (.bool true))
def b_rounds_1 : Ss := (.cons (.sti 3 (.var 6) (.var 4))
 .nil)
def e_rounds_2 : E := (.var 6)
def c_rounds_3 : Eo := (.so (.mem true (.var 6) (.s 3)))
def b_rounds_4 : Ss := (.cons (.aug 4 .add (.lit (.int 1)))
 (.cons (.asg (.v 5) (.lc2 e_rounds_2 (.v 7) (.it (.s 3)) .no (.v 6) (.it (.e (.call i_led_to (.e (.idx (.s 2) (.var 7)) (.bor 3 (.bor 1 .nil)))))) c_rounds_3 [7, 6]))
 (.cons (.iff (.not (.var 5))
 (.cons (.ret (.mov 3))
 .nil)
 .nil)
 (.cons (.for (.v 6) (.it (.s 5))
 b_rounds_1)
 .nil))))
def e_rounds_5 : E := (.var 6)
def e_rounds_6 : E := (.lit (.int 0))
def b_rounds : Ss := (.cons (.asg (.v 2) (.call i_by_number (.bor 0 .nil)))
 (.cons (.asg (.v 3) (.dc e_rounds_5 e_rounds_6 (.v 6) (.it (.e (.call i_held_in (.e (.idx (.s 0) (.glb "REGISTERS" (.int 2))) .nil)))) .no [6]))
 (.cons (.asg (.v 4) (.lit (.int 0)))
 (.cons (.whl e_rounds_0
 b_rounds_4)
 .nil))))
def b_obtainable : Ss := (.cons (.ret (.cv .tup (.e (.cv .srt (.e (.call i_rounds (.bor 0 (.bor 1 .nil))))))))
 .nil)
def b_reachable : Ss := (.cons (.ret (.call i_obtainable (.bor 0 (.e (.call i_numbers_of (.bor 0 .nil)) .nil))))
 .nil)
def e_without_0 : E := (.var 2)
def c_without_1 : Eo := (.so (.and (.mem true (.idx (.s 2) (.lit (.int 0))) (.s 1)) (.mem true (.idx (.s 2) (.lit (.int 1))) (.s 1))))
def e_without_2 : E := (.ite (.mem false (.var 3) (.s 1)) (.lit .none) (.var 3))
def b_without : Ss := (.cons (.iff (.cmp .eq (.idx (.s 0) (.lit (.int 0))) (.lit (.str "record")))
 (.cons (.ret (.bin .add (.slc (.s 0) .no (.so (.lit (.int 2)))) (.tup (.cons (.gen .tup e_without_2 (.v 3) (.it (.e (.idx (.s 0) (.lit (.int 2))))) .no [3]) .nil))))
 .nil)
 .nil)
 (.cons (.iff (.cmp .eq (.idx (.s 0) (.lit (.int 0))) (.lit (.str "weak")))
 (.cons (.ret (.bin .add (.slc (.s 0) .no (.so (.lit (.int 2)))) (.tup (.cons (.ite (.mem false (.idx (.s 0) (.lit (.int 2))) (.s 1)) (.lit .none) (.idx (.s 0) (.lit (.int 2)))) .nil))))
 .nil)
 .nil)
 (.cons (.ret (.bin .add (.slc (.s 0) .no (.so (.lit (.int 2)))) (.tup (.cons (.gen .tup e_without_0 (.v 2) (.it (.e (.idx (.s 0) (.lit (.int 2))))) c_without_1 [2]) .nil))))
 .nil)))
def e_left_out_0 : E := (.call i_without (.bor 9 (.e (.tup (.cons (.var 1) .nil)) .nil)))
def e_left_out_1 : E := (.ite (.cmp .eq (.var 8) (.var 1)) (.lit .none) (.var 8))
def b_left_out : Ss := (.cons (.asg (.t [(.v 2), (.v 3), (.v 4), (.v 5), (.v 6), (.v 7)]) (.var 0))
 (.cons (.ret (.call i_make_heap (.bor 3 (.e (.gen .tup e_left_out_1 (.v 8) (.it (.s 4)) .no [8]) (.bor 5 (.e (.gen .tup e_left_out_0 (.v 9) (.it (.s 6)) .no [9]) (.bor 7 .nil)))))))
 .nil))
def e_retained_0 : E := (.var 4)
def c_retained_1 : Eo := (.so (.or (.cmp .eq (.var 4) (.var 1)) (.mem true (.var 4) (.s 3))))
def b_retained : Ss := (.cons (.asg (.v 2) (.call i_reachable (.bor 0 .nil)))
 (.cons (.iff (.mem true (.var 1) (.s 2))
 (.cons (.ret (.tup .nil))
 .nil)
 .nil)
 (.cons (.asg (.v 3) (.call i_reachable (.e (.call i_left_out (.bor 0 (.bor 1 .nil))) .nil)))
 (.cons (.ret (.gen .tup e_retained_0 (.v 4) (.it (.s 2)) c_retained_1 [4]))
 .nil))))
def e_dominators_0 : E := (.var 2)
def c_dominators_1 : Eo := (.so (.mem false (.var 1) (.e (.call i_retained (.bor 0 (.bor 2 .nil))))))
def b_dominators : Ss := (.cons (.ret (.gen .tup e_dominators_0 (.v 2) (.it (.e (.call i_numbers_of (.bor 0 .nil)))) c_dominators_1 [2]))
 .nil)
def b_law_cell : Ss := (.cons (.iff (.cmp .lt (.var 1) (.len (.s 0)))
 (.cons (.ret (.idx (.s 0) (.var 1)))
 .nil)
 .nil)
 (.cons (.ret (.lit (.int 0)))
 .nil))
def b_law_digits_0 : Ss := (.cons (.iff (.cmp .gt (.var 5) (.lit (.int 0)))
 (.cons (.app 3 (.bin .mod (.cv .int (.s 5)) (.lit (.int 1000))))
 (.cons (.asg (.v 5) (.bin .fdiv (.var 5) (.lit (.int 1000))))
 .nil))
 .nil)
 .nil)
def b_law_digits_1 : Ss := (.cons (.asg (.v 7) (.bin .mod (.cv .int (.e (.bin .add (.bin .add (.bin .mul (.var 7) (.lit (.int 16807))) (.bin .mul (.lit (.int 7)) (.var 6))) (.lit (.int 1))))) (.lit (.int 2147483647))))
 (.cons (.app 3 (.bin .mod (.cv .int (.e (.bin .fdiv (.var 7) (.lit (.int 997))))) (.lit (.int 1000))))
 .nil))
def b_law_digits_2 : Ss := (.cons (.asg (.v 5) (.call i_law_cell (.bor 0 (.bor 4 .nil))))
 (.cons (.iff (.cmp .lt (.var 5) (.lit (.int 0)))
 (.cons (.asg (.v 5) (.bin .sub (.lit (.int 1)) (.bin .mul (.lit (.int 2)) (.var 5))))
 .nil)
 .nil)
 (.cons (.iff (.cmp .ge (.var 5) (.bin .pow (.lit (.int 10)) (.lit (.int 18))))
 (.cons (.for (.v 6) (.rng1 (.lit (.int 60)))
 b_law_digits_0)
 .nil)
 (.cons (.asg (.v 7) (.bin .mod (.cv .int (.e (.bin .add (.bin .add (.bin .mul (.var 5) (.lit (.int 48271))) (.bin .mul (.var 4) (.lit (.int 69621)))) (.lit (.int 11))))) (.lit (.int 2147483647))))
 (.cons (.for (.v 6) (.rng1 (.lit (.int 12)))
 b_law_digits_1)
 .nil)))
 .nil)))
def b_law_digits : Ss := (.cons (.asg (.v 3) (.lst .nil))
 (.cons (.for (.v 4) (.rng2 (.var 1) (.var 2))
 b_law_digits_2)
 (.cons (.ret (.mov 3))
 .nil)))
def b_law_box : Ss := (.cons (.ret (.lst (.cons (.call i_law_digits (.bor 0 (.bor 1 (.bor 2 .nil)))) (.cons (.lit (.int 0)) .nil))))
 .nil)
def b_law_draw : Ss := (.cons (.asg (.v 2) (.idx (.s 0) (.lit (.int 1))))
 (.cons (.sti 0 (.lit (.int 1)) (.bin .add (.var 2) (.lit (.int 1))))
 (.cons (.iff (.cmp .lt (.var 2) (.len (.e (.idx (.s 0) (.lit (.int 0))))))
 (.cons (.ret (.bin .mod (.cv .int (.e (.idx (.e (.idx (.s 0) (.lit (.int 0)))) (.var 2)))) (.var 1)))
 .nil)
 .nil)
 (.cons (.ret (.lit (.int 0)))
 .nil))))
def b_law_number : Ss := (.cons (.iff (.or (.cmp .eq (.len (.s 1)) (.lit (.int 0))) (.cmp .eq (.call i_law_draw (.chg 0 (.e (.lit (.int 5)) .nil))) (.lit (.int 0))))
 (.cons (.ret (.lit .none))
 .nil)
 .nil)
 (.cons (.ret (.idx (.s 1) (.bin .mod (.cv .int (.e (.call i_law_draw (.chg 0 (.e (.lit (.int 1000)) .nil))))) (.len (.s 1)))))
 .nil))
def e_law_object_0 : E := (.idx (.s 8) (.lit (.int 0)))
def b_law_object_1 : Ss := (.cons (.asg (.v 6) (.idx (.s 2) (.bin .mod (.cv .int (.e (.call i_law_draw (.chg 0 (.e (.lit (.int 1000)) .nil))))) (.len (.s 2)))))
 (.cons (.asg (.v 7) (.idx (.s 2) (.bin .mod (.cv .int (.e (.call i_law_draw (.chg 0 (.e (.lit (.int 1000)) .nil))))) (.len (.s 2)))))
 (.cons (.iff (.mem true (.var 6) (.e (.lc e_law_object_0 (.v 8) (.it (.s 4)) .no [8])))
 (.cons (.app 4 (.tup (.cons (.var 6) (.cons (.var 7) .nil))))
 .nil)
 .nil)
 .nil)))
def e_law_object_2 : E := (.call i_law_number (.chg 0 (.bor 2 .nil)))
def b_law_object : Ss := (.cons (.asg (.v 3) (.call i_law_draw (.chg 0 (.e (.lit (.int 7)) .nil))))
 (.cons (.iff (.or (.cmp .lt (.var 3) (.lit (.int 3))) (.and (.cmp .gt (.var 3) (.lit (.int 4))) (.cmp .eq (.len (.s 2)) (.lit (.int 0)))))
 (.cons (.ret (.tup (.cons (.lit (.str "record")) (.cons (.var 1) (.cons (.cv .tup (.e (.lc e_law_object_2 (.v 5) (.rng1 (.call i_law_draw (.chg 0 (.e (.lit (.int 4)) .nil)))) .no [5]))) .nil)))))
 .nil)
 .nil)
 (.cons (.iff (.cmp .lt (.var 3) (.lit (.int 5)))
 (.cons (.ret (.tup (.cons (.lit (.str "weak")) (.cons (.var 1) (.cons (.call i_law_number (.chg 0 (.bor 2 .nil))) .nil)))))
 .nil)
 .nil)
 (.cons (.asg (.v 4) (.lst .nil))
 (.cons (.for (.v 5) (.rng1 (.call i_law_draw (.chg 0 (.e (.lit (.int 4)) .nil))))
 b_law_object_1)
 (.cons (.ret (.tup (.cons (.lit (.str "table")) (.cons (.var 1) (.cons (.cv .tup (.s 4)) .nil)))))
 .nil))))))
def b_law_heap_0 : Ss := (.cons (.iff (.cmp .eq (.call i_law_draw (.chg 0 (.e (.lit (.int 3)) .nil))) (.lit (.int 0)))
 (.cons (.app 9 (.tup (.cons (.var 10) (.cons (.bin .add (.lit (.int 7)) (.call i_law_draw (.chg 0 (.e (.lit (.int 2)) .nil)))) .nil))))
 .nil)
 .nil)
 .nil)
def e_law_heap_1 : E := (.var 10)
def c_law_heap_2 : Eo := (.so (.cmp .eq (.call i_law_draw (.chg 0 (.e (.lit (.int 6)) .nil))) (.lit (.int 0))))
def e_law_heap_3 : E := (.call i_law_number (.chg 0 (.bor 3 .nil)))
def e_law_heap_4 : E := (.call i_law_object (.chg 0 (.bor 10 (.bor 3 .nil))))
def b_law_heap_5 : Ss := (.cons (.asg (.v 4) (.bin .add (.var 4) (.idx (.e (.lst (.cons (.lit (.int 0)) (.cons (.lit (.int 0)) (.cons (.lit (.int 0)) (.cons (.lit (.int 2)) .nil)))))) (.call i_law_draw (.chg 0 (.e (.lit (.int 4)) .nil))))))
 (.cons (.app 3 (.var 4))
 (.cons (.asg (.v 4) (.bin .add (.var 4) (.lit (.int 1))))
 .nil)))
def b_law_heap : Ss := (.cons (.asg (.v 2) (.call i_law_draw (.chg 0 (.e (.bin .add (.var 1) (.lit (.int 1))) .nil))))
 (.cons (.asg (.v 3) (.lst .nil))
 (.cons (.asg (.v 4) (.lit (.int 0)))
 (.cons (.for (.v 5) (.rng1 (.var 2))
 b_law_heap_5)
 (.cons (.asg (.v 6) (.cv .tup (.e (.lc e_law_heap_4 (.v 10) (.it (.s 3)) .no [10]))))
 (.cons (.asg (.v 7) (.cv .tup (.e (.lc e_law_heap_3 (.v 5) (.rng1 (.bin .add (.lit (.int 1)) (.call i_law_draw (.chg 0 (.e (.lit (.int 3)) .nil))))) .no [5]))))
 (.cons (.asg (.v 8) (.cv .tup (.e (.lc e_law_heap_1 (.v 10) (.it (.s 3)) c_law_heap_2 [10]))))
 (.cons (.asg (.v 9) (.lst .nil))
 (.cons (.for (.v 10) (.it (.s 3))
 b_law_heap_0)
 (.cons (.ret (.tup (.cons (.lit (.str "heap")) (.cons (.bin .add (.var 4) (.call i_law_draw (.chg 0 (.e (.lit (.int 2)) .nil)))) (.cons (.var 7) (.cons (.var 8) (.cons (.var 6) (.cons (.cv .tup (.s 9)) .nil))))))))
 .nil))))))))))
def e_law_numbers_0 : E := (.idx (.s 1) (.lit (.int 1)))
def b_law_numbers : Ss := (.cons (.ret (.lc e_law_numbers_0 (.v 1) (.it (.e (.idx (.s 0) (.lit (.int 4))))) .no [1]))
 .nil)
def e_law_follows_0 : E := (.idx (.s 3) (.lit (.int 1)))
def c_law_follows_1 : Eo := (.so (.mem false (.idx (.s 3) (.lit (.int 0))) (.s 1)))
def e_law_follows_2 : E := (.var 4)
def c_law_follows_3 : Eo := (.so (.and (.isn true (.var 4)) (.mem true (.var 4) (.s 2))))
def e_law_follows_4 : E := (.var 4)
def c_law_follows_5 : Eo := (.so (.isn true (.var 4)))
def b_law_follows : Ss := (.cons (.iff (.cmp .eq (.idx (.s 0) (.lit (.int 0))) (.lit (.str "record")))
 (.cons (.ret (.lc e_law_follows_4 (.v 4) (.it (.e (.idx (.s 0) (.lit (.int 2))))) c_law_follows_5 [4]))
 .nil)
 .nil)
 (.cons (.iff (.cmp .eq (.idx (.s 0) (.lit (.int 0))) (.lit (.str "weak")))
 (.cons (.ret (.lc e_law_follows_2 (.v 4) (.it (.e (.lst (.cons (.idx (.s 0) (.lit (.int 2))) .nil)))) c_law_follows_3 [4]))
 .nil)
 .nil)
 (.cons (.ret (.lc e_law_follows_0 (.v 3) (.it (.e (.idx (.s 0) (.lit (.int 2))))) c_law_follows_1 [3]))
 .nil)))
def e_law_obtainable_0 : E := (.var 5)
def c_law_obtainable_1 : Eo := (.so (.mem false (.var 5) (.s 2)))
def e_law_obtainable_2 : E := (.var 5)
def c_law_obtainable_3 : Eo := (.so (.mem true (.var 5) (.s 2)))
def b_law_obtainable_4 : Ss := (.cons (.iff (.mem false (.idx (.s 4) (.lit (.int 1))) (.s 2))
 (.cons (.asg (.v 2) (.bin .add (.var 2) (.lc e_law_obtainable_2 (.v 5) (.it (.e (.call i_law_follows (.bor 4 (.bor 2 (.bor 1 .nil)))))) c_law_obtainable_3 [5])))
 .nil)
 .nil)
 .nil)
def b_law_obtainable_5 : Ss := (.cons (.for (.v 4) (.it (.e (.idx (.s 0) (.lit (.int 4)))))
 b_law_obtainable_4)
 .nil)
def e_law_obtainable_6 : E := (.var 5)
def c_law_obtainable_7 : Eo := (.so (.isn true (.var 5)))
def b_law_obtainable : Ss := (.cons (.asg (.v 2) (.lc e_law_obtainable_6 (.v 5) (.it (.e (.idx (.s 0) (.lit (.int 2))))) c_law_obtainable_7 [5]))
 (.cons (.for (.v 3) (.rng1 (.bin .add (.len (.e (.idx (.s 0) (.lit (.int 4))))) (.lit (.int 1))))
 b_law_obtainable_5)
 (.cons (.ret (.cv .srt (.e (.lc e_law_obtainable_0 (.v 5) (.it (.e (.call i_law_numbers (.bor 0 .nil)))) c_law_obtainable_1 [5]))))
 .nil)))
def b_law_same_0 : Ss := (.cons (.iff (.not (.call i_law_same (.e (.idx (.s 0) (.var 2)) (.e (.idx (.s 1) (.var 2)) .nil))))
 (.cons (.ret (.lit (.bool false)))
 .nil)
 .nil)
 .nil)
def b_law_same : Ss := (.cons (.iff (.isi (.s 1) .tup)
 (.cons (.iff (.or (.not (.isi (.s 0) .tup)) (.cmp .ne (.len (.s 0)) (.len (.s 1))))
 (.cons (.ret (.lit (.bool false)))
 .nil)
 .nil)
 (.cons (.for (.v 2) (.rng1 (.len (.s 1)))
 b_law_same_0)
 (.cons (.ret (.lit (.bool true)))
 .nil)))
 .nil)
 (.cons (.iff (.isn false (.var 1))
 (.cons (.ret (.isn false (.var 0)))
 .nil)
 .nil)
 (.cons (.iff (.isi (.s 1) .bool)
 (.cons (.ret (.and (.isi (.s 0) .bool) (.cmp .eq (.var 0) (.var 1))))
 .nil)
 .nil)
 (.cons (.iff (.isi (.s 1) .int)
 (.cons (.ret (.and (.isi (.s 0) .int) (.and (.not (.isi (.s 0) .bool)) (.cmp .eq (.var 0) (.var 1)))))
 .nil)
 .nil)
 (.cons (.ret (.and (.isi (.s 0) .str) (.cmp .eq (.var 0) (.var 1))))
 .nil)))))
def e_law_left_out_0 : E := (.ite (.cmp .eq (.var 4) (.var 1)) (.lit .none) (.var 4))
def e_law_left_out_1 : E := (.ite (.cmp .eq (.var 4) (.var 1)) (.lit .none) (.var 4))
def e_law_left_out_2 : E := (.var 5)
def c_law_left_out_3 : Eo := (.so (.mem true (.var 1) (.s 5)))
def b_law_left_out_4 : Ss := (.cons (.iff (.cmp .eq (.idx (.s 3) (.lit (.int 0))) (.lit (.str "record")))
 (.cons (.asg (.v 3) (.tup (.cons (.lit (.str "record")) (.cons (.idx (.s 3) (.lit (.int 1))) (.cons (.cv .tup (.e (.lc e_law_left_out_1 (.v 4) (.it (.e (.idx (.s 3) (.lit (.int 2))))) .no [4]))) .nil)))))
 .nil)
 (.cons (.iff (.cmp .eq (.idx (.s 3) (.lit (.int 0))) (.lit (.str "weak")))
 (.cons (.asg (.v 3) (.tup (.cons (.lit (.str "weak")) (.cons (.idx (.s 3) (.lit (.int 1))) (.cons (.ite (.cmp .eq (.idx (.s 3) (.lit (.int 2))) (.var 1)) (.lit .none) (.idx (.s 3) (.lit (.int 2)))) .nil)))))
 .nil)
 (.cons (.asg (.v 3) (.tup (.cons (.lit (.str "table")) (.cons (.idx (.s 3) (.lit (.int 1))) (.cons (.cv .tup (.e (.lc e_law_left_out_2 (.v 5) (.it (.e (.idx (.s 3) (.lit (.int 2))))) c_law_left_out_3 [5]))) .nil)))))
 .nil))
 .nil))
 (.cons (.app 2 (.var 3))
 .nil))
def b_law_left_out : Ss := (.cons (.asg (.v 2) (.lst .nil))
 (.cons (.for (.v 3) (.it (.e (.idx (.s 0) (.lit (.int 4)))))
 b_law_left_out_4)
 (.cons (.ret (.bin .add (.slc (.s 0) .no (.so (.lit (.int 2)))) (.tup (.cons (.cv .tup (.e (.lc e_law_left_out_0 (.v 4) (.it (.e (.idx (.s 0) (.lit (.int 2))))) .no [4]))) (.cons (.idx (.s 0) (.lit (.int 3))) (.cons (.cv .tup (.s 2)) (.cons (.idx (.s 0) (.lit (.int 5))) .nil)))))))
 .nil)))
def b_law_0 : Ss := (.cons (.iff (.mem true (.var 10) (.e (.idx (.s 5) (.var 6))))
 (.cons (.ret (.lit (.bool false)))
 .nil)
 .nil)
 .nil)
def b_law_1 : Ss := (.cons (.iff (.and (.cmp .ne (.var 9) (.var 6)) (.mem false (.var 6) (.e (.idx (.s 5) (.var 9)))))
 (.cons (.ret (.lit (.bool false)))
 .nil)
 .nil)
 (.cons (.for (.v 10) (.it (.e (.idx (.s 5) (.var 9))))
 b_law_0)
 .nil))
def e_law_2 : E := (.var 9)
def c_law_3 : Eo := (.so (.mem false (.var 6) (.e (.idx (.s 5) (.var 9)))))
def b_law_4 : Ss := (.cons (.iff (.not (.call i_law_same (.e (.call i_dominators (.bor 2 (.bor 6 .nil))) (.e (.cv .tup (.e (.lc e_law_2 (.v 9) (.it (.s 3)) c_law_3 [9]))) .nil))))
 (.cons (.ret (.lit (.bool false)))
 .nil)
 .nil)
 (.cons (.for (.v 9) (.it (.e (.idx (.s 5) (.var 6))))
 b_law_1)
 .nil))
def e_law_5 : E := (.var 9)
def c_law_6 : Eo := (.so (.or (.cmp .eq (.var 9) (.var 6)) (.mem true (.var 9) (.s 7))))
def b_law_7 : Ss := (.cons (.asg (.v 7) (.call i_law_obtainable (.e (.call i_law_left_out (.bor 2 (.bor 6 .nil))) (.bor 3 .nil))))
 (.cons (.asg (.v 8) (.tup .nil))
 (.cons (.iff (.mem false (.var 6) (.s 4))
 (.cons (.asg (.v 8) (.cv .tup (.e (.lc e_law_5 (.v 9) (.it (.s 4)) c_law_6 [9]))))
 .nil)
 .nil)
 (.cons (.sti 5 (.var 6) (.var 8))
 (.cons (.iff (.not (.call i_law_same (.e (.call i_retained (.bor 2 (.bor 6 .nil))) (.bor 8 .nil))))
 (.cons (.ret (.lit (.bool false)))
 .nil)
 .nil)
 .nil)))))
def b_law : Ss := (.cons (.asg (.v 1) (.call i_law_box (.bor 0 (.e (.lit (.int 0)) (.e (.lit (.int 63)) .nil)))))
 (.cons (.asg (.v 2) (.call i_law_heap (.chg 1 (.e (.lit (.int 9)) .nil))))
 (.cons (.asg (.v 3) (.call i_law_numbers (.bor 2 .nil)))
 (.cons (.asg (.v 4) (.call i_law_obtainable (.bor 2 (.bor 3 .nil))))
 (.cons (.asg (.v 5) .dsp0)
 (.cons (.for (.v 6) (.it (.s 3))
 b_law_7)
 (.cons (.for (.v 6) (.it (.s 3))
 b_law_4)
 (.cons (.ret (.lit (.bool true)))
 .nil))))))))
def top (i : Nat) : Stmt := PySem.Challenge.pw_weakcourt_k23_what_objects_retain.main.body.getD i (.Pass ⟨0, 0, 0, 0⟩)
def db_make_heap : Df := ⟨"make_heap", "make_heap", top 3, ["following", "registers", "kept", "objects", "watches"], ["following", "registers", "kept", "objects", "watches"], b_make_heap⟩
def db_numbers_of : Df := ⟨"numbers_of", "numbers_of", top 4, ["heap", "thing"], ["heap"], b_numbers_of⟩
def db_by_number : Df := ⟨"by_number", "by_number", top 5, ["heap", "thing"], ["heap"], b_by_number⟩
def db_held_in : Df := ⟨"held_in", "held_in", top 6, ["registers", "number"], ["registers"], b_held_in⟩
def db_led_to : Df := ⟨"led_to", "led_to", top 8, ["thing", "got", "barred", "key", "value"], ["thing", "got", "barred"], b_led_to⟩
def db_rounds : Df := ⟨"rounds", "rounds", top 9, ["heap", "barred", "things", "found", "turn", "more", "number", "known"], ["heap", "barred"], b_rounds⟩
def db_obtainable : Df := ⟨"obtainable", "obtainable", top 10, ["heap", "condemned"], ["heap", "condemned"], b_obtainable⟩
def db_reachable : Df := ⟨"reachable", "reachable", top 11, ["heap"], ["heap"], b_reachable⟩
def db_without : Df := ⟨"without", "without", top 13, ["thing", "numbers", "entry", "reference"], ["thing", "numbers"], b_without⟩
def db_left_out : Df := ⟨"left_out", "left_out", top 15, ["heap", "number", "_", "following", "registers", "kept", "objects", "watches", "reference", "thing"], ["heap", "number"], b_left_out⟩
def db_retained : Df := ⟨"retained", "retained", top 16, ["heap", "number", "there", "still", "other"], ["heap", "number"], b_retained⟩
def db_dominators : Df := ⟨"dominators", "dominators", top 17, ["heap", "number", "other"], ["heap", "number"], b_dominators⟩
def db_law_cell : Df := ⟨"_law_cell", "_law_cell", top 19, ["_law_script", "_law_k"], ["_law_script", "_law_k"], b_law_cell⟩
def db_law_digits : Df := ⟨"_law_digits", "_law_digits", top 20, ["_law_script", "_law_first", "_law_last", "_law_digits_here", "_law_k", "_law_cell_here", "_law_turn", "_law_seed"], ["_law_script", "_law_first", "_law_last"], b_law_digits⟩
def db_law_box : Df := ⟨"_law_box", "_law_box", top 21, ["_law_script", "_law_first", "_law_last"], ["_law_script", "_law_first", "_law_last"], b_law_box⟩
def db_law_draw : Df := ⟨"_law_draw", "_law_draw", top 22, ["_law_box_here", "_law_many", "_law_at"], ["_law_box_here", "_law_many"], b_law_draw⟩
def db_law_number : Df := ⟨"_law_number", "_law_number", top 23, ["_law_box_here", "_law_numbers_here"], ["_law_box_here", "_law_numbers_here"], b_law_number⟩
def db_law_object : Df := ⟨"_law_object", "_law_object", top 24, ["_law_box_here", "_law_number_here", "_law_numbers_here", "_law_kind", "_law_entries", "_law_k", "_law_key", "_law_value", "_law_entry"], ["_law_box_here", "_law_number_here", "_law_numbers_here"], b_law_object⟩
def db_law_heap : Df := ⟨"_law_heap", "_law_heap", top 25, ["_law_box_here", "_law_most", "_law_many", "_law_numbers_here", "_law_at", "_law_k", "_law_objects", "_law_registers", "_law_kept", "_law_watches", "_law_number_here"], ["_law_box_here", "_law_most"], b_law_heap⟩
def db_law_numbers : Df := ⟨"_law_numbers", "_law_numbers", top 26, ["_law_heap_here", "_law_row"], ["_law_heap_here"], b_law_numbers⟩
def db_law_follows : Df := ⟨"_law_follows", "_law_follows", top 27, ["_law_row", "_law_got", "_law_gone", "_law_entry", "_law_number_here"], ["_law_row", "_law_got", "_law_gone"], b_law_follows⟩
def db_law_obtainable : Df := ⟨"_law_obtainable", "_law_obtainable", top 28, ["_law_heap_here", "_law_gone", "_law_got", "_law_turn", "_law_row", "_law_number_here"], ["_law_heap_here", "_law_gone"], b_law_obtainable⟩
def db_law_same : Df := ⟨"_law_same", "_law_same", top 29, ["_law_actual", "_law_expected", "_law_k"], ["_law_actual", "_law_expected"], b_law_same⟩
def db_law_left_out : Df := ⟨"_law_left_out", "_law_left_out", top 30, ["_law_heap_here", "_law_number_here", "_law_objects", "_law_row", "_law_one", "_law_entry"], ["_law_heap_here", "_law_number_here"], b_law_left_out⟩
def db_law : Df := ⟨"law", "law", top 31, ["_law_script", "_law_box_here", "_law_heap_here", "_law_numbers_here", "_law_there", "_law_table", "_law_number_here", "_law_still", "_law_due", "_law_other", "_law_third"], ["_law_script"], b_law⟩
def ds : List Df := [db_make_heap, db_numbers_of, db_by_number, db_held_in, db_led_to, db_rounds, db_obtainable, db_reachable, db_without, db_left_out, db_retained, db_dominators, db_law_cell, db_law_digits, db_law_box, db_law_draw, db_law_number, db_law_object, db_law_heap, db_law_numbers, db_law_follows, db_law_obtainable, db_law_same, db_law_left_out, db_law]
def gls : List (Str × D) := [("REGISTERS", (.int 2)), ("OBJECTS", (.int 4))]
def free : List Str := ["bool", "int", "isinstance", "len", "range", "sorted", "str", "tuple"]
end K23

set_option Elab.async false
set_option linter.all false
set_option maxRecDepth 100000
set_option maxHeartbeats 0
namespace K23
open PySem PySem.Spec L2 Wk
abbrev fdl : List Fd := ds.map Df.fd
abbrev C (k : Nat) : Calls := callN fdl 200 k
theorem call_unf {k f : Nat} {ss : List Sl} {d : Df} (h : ds[f]? = some d) (hl : ss.length = d.ps.length) (ρ : Sv) (hs : startS d.fd ss = ρ) : C (k + 1) f ss = outCall ss (evSs (C k) 200 d.body ρ) := by
  subst hs
  show callN fdl 200 (k + 1) f ss = _
  unfold callN
  rw [List.getElem?_map, h]
  show guardR (decide (ss.length = d.ps.length)) _ = _
  rw [decide_eq_true hl]
  rfl
/-- the box of digits -/
def boxC (l : List Int) (at_ : Int) : Ct := .lst [.list (l.map PyData.int), .int at_]
theorem ints_at {l : List Int} {i : Int} (h0 : 0 ≤ i) (h1 : i < l.length) : ∃ x, x ∈ l ∧ atI (l.map PyData.int) i = some (PyData.int x) := by
  obtain ⟨x, h2, h3⟩ := atI_ok (xs := l.map PyData.int) h0 (by simpa using h1)
  rw [List.getElem?_map] at h2
  cases e : l[i.toNat]? with
  | none => rw [e] at h2; cases h2
  | some y => rw [e] at h2; cases h2; exact ⟨y, List.mem_of_getElem? e, h3⟩
theorem draw_ok {k : Nat} {l : List Int} {a m : Int} (ha : 0 ≤ a) (hm : 0 < m) : ∃ r : Int, 0 ≤ r ∧ r < m ∧ C (k + 1) i_law_draw [.chg (boxC l a), .im (.int m)] = .ok (.im (.int r), [boxC l (a + 1)]) := by
  have e1 : idxD (.dat (.list [.list (l.map PyData.int), .int a])) (.int 1) = .ok (.int a) := rfl
  have e0 : ∀ b : Int, idxD (.dat (.list [.list (l.map PyData.int), .int b])) (.int 0) = .ok (.list (l.map PyData.int)) := fun _ => rfl
  have e2 : ∀ x y z, setC (.int 1) z (.chg (.lst [x, y])) = .ok (.chg (.lst [x, z])) := fun x y z => rfl
  have key : ∀ ρ, startS db_law_draw.fd [.chg (boxC l a), .im (.int m)] = ρ → C (k + 1) i_law_draw [.chg (boxC l a), .im (.int m)] = outCall [.chg (boxC l a), .im (.int m)] (evSs (C k) 200 b_law_draw ρ) := fun ρ h => call_unf (d := db_law_draw) rfl rfl ρ h
  rw [key [some (.chg (boxC l a)), some (.im (.int m)), none] rfl]
  unfold b_law_draw boxC
  by_cases h : a < l.length
  · obtain ⟨x, _, hx⟩ := ints_at ha h
    refine ⟨x % m, Int.emod_nonneg _ (by omega), Int.emod_lt_of_pos _ hm, ?_⟩
    simp only [evSs, evS, evE, evT, evEs, evAs, evO, evC, evR, evSc, evScN, srcN, slotC, R.ok_bind, R.exc_bind, R.bad_bind, R.ok_out, R.exc_out, R.bad_out, setS, cn_im, cn_own, cn_bor, cn_chg, cn_lst, cn_dct, cn_set, datR_im, datR_lst, tru_none, tru_bool, tru_int, tru_list, tru_tuple, trd_none, trd_bool, trd_int, trd_list, trd_tuple, len_list, len_tuple, len_dct, cv_int, cv_tup1, cv_tup2, cv_lst1, cv_lst2, slD_int, slD_tuple, slD_str, slD_list,
  isi_none, isi_bool, isi_int, isi_str, isi_tuple, isi_list, isTy, arg_im, arg_own, grd_true, get_0, get_s, var_eq, mov_eq, bor_eq, mut_eq, put_eq, fin_eq, lk_eq, un_eq, var_im, var_own, mov_im, mov_own, bor_im, bor_own, bor_bor, bor_chg, mut_own, mut_chg, put_own, put_chg, puts_nil, puts_cons, app_own, app_chg, isl_list, isd_dct, fin_nil, fin_im, fin_bor, fin_own, fin_chg, out_ret, out_nx, ob_nx, ob_ret, ob_brk, ob_cnt, ul_nx, ul_ret, bp_im, bp_own, bp_t, bps_nil, bps_cons, lk_nil, lk_im, lk_bor, lk_own, lk_chg, un_nil, un_own, un_chg, un_im, un_bor, nox_ok, if_true, if_false, Bool.false_eq_true, as_nil, as_e, as_bor, as_chg,
  As.muts, As.bors, Sc.locks, Rdo.locks, Pt.slots, Pt.slotss, wipeS, backS, bAdd, bSub, c_lt, c_le, c_gt, c_ge, c_eq, c_ne, c_eqs, augD, itemsE, itemsS, isN_none, isN_bool, isN_int, isN_str, isN_tuple, isN_list, opt_none, Bool.xor_false, Bool.false_xor, Bool.true_xor, Bool.xor_true,
  List.getElem?_cons_zero, List.getElem?_cons_succ, List.getElem?_nil, List.set_cons_zero, List.set_cons_succ, List.length_cons, List.length_nil, List.map_cons, List.map_nil, Bool.true_and, Bool.and_true, Bool.not_true, Bool.not_false, Bool.and_self, List.all_nil, List.all_cons, List.nodup_nil, List.nodup_cons, List.not_mem_nil, not_false_eq_true, and_true, List.contains_nil, List.contains_eq_mem, decide_true, decide_false, Option.getD_some, Option.getD_none, e1, e0, e2, idxL hx, List.length_map, h, bMod hm]
  · refine ⟨0, by omega, hm, ?_⟩
    simp only [evSs, evS, evE, evT, evEs, evAs, evO, evC, evR, evSc, evScN, srcN, slotC, R.ok_bind, R.exc_bind, R.bad_bind, R.ok_out, R.exc_out, R.bad_out, setS, cn_im, cn_own, cn_bor, cn_chg, cn_lst, cn_dct, cn_set, datR_im, datR_lst, tru_none, tru_bool, tru_int, tru_list, tru_tuple, trd_none, trd_bool, trd_int, trd_list, trd_tuple, len_list, len_tuple, len_dct, cv_int, cv_tup1, cv_tup2, cv_lst1, cv_lst2, slD_int, slD_tuple, slD_str, slD_list,
  isi_none, isi_bool, isi_int, isi_str, isi_tuple, isi_list, isTy, arg_im, arg_own, grd_true, get_0, get_s, var_eq, mov_eq, bor_eq, mut_eq, put_eq, fin_eq, lk_eq, un_eq, var_im, var_own, mov_im, mov_own, bor_im, bor_own, bor_bor, bor_chg, mut_own, mut_chg, put_own, put_chg, puts_nil, puts_cons, app_own, app_chg, isl_list, isd_dct, fin_nil, fin_im, fin_bor, fin_own, fin_chg, out_ret, out_nx, ob_nx, ob_ret, ob_brk, ob_cnt, ul_nx, ul_ret, bp_im, bp_own, bp_t, bps_nil, bps_cons, lk_nil, lk_im, lk_bor, lk_own, lk_chg, un_nil, un_own, un_chg, un_im, un_bor, nox_ok, if_true, if_false, Bool.false_eq_true, as_nil, as_e, as_bor, as_chg,
  As.muts, As.bors, Sc.locks, Rdo.locks, Pt.slots, Pt.slotss, wipeS, backS, bAdd, bSub, c_lt, c_le, c_gt, c_ge, c_eq, c_ne, c_eqs, augD, itemsE, itemsS, isN_none, isN_bool, isN_int, isN_str, isN_tuple, isN_list, opt_none, Bool.xor_false, Bool.false_xor, Bool.true_xor, Bool.xor_true,
  List.getElem?_cons_zero, List.getElem?_cons_succ, List.getElem?_nil, List.set_cons_zero, List.set_cons_succ, List.length_cons, List.length_nil, List.map_cons, List.map_nil, Bool.true_and, Bool.and_true, Bool.not_true, Bool.not_false, Bool.and_self, List.all_nil, List.all_cons, List.nodup_nil, List.nodup_cons, List.not_mem_nil, not_false_eq_true, and_true, List.contains_nil, List.contains_eq_mem, decide_true, decide_false, Option.getD_some, Option.getD_none, e1, e0, e2, List.length_map, h]
theorem cell_ok {k : Nat} {ns : List Int} {s : Sl} {i : Int} (hs : IsScript s ns) (hi : 0 ≤ i) : ∃ x : Int, C (k + 1) i_law_cell [s, .im (.int i)] = .ok (.im (.int x), []) := by
  have hc : s.cn = .dat (.list (ns.map PyData.int)) := by rcases hs with rfl | rfl <;> rfl
  have key : ∀ ρ, startS db_law_cell.fd [s, .im (.int i)] = ρ → C (k + 1) i_law_cell [s, .im (.int i)] = outCall [s, .im (.int i)] (evSs (C k) 200 b_law_cell ρ) := fun ρ h => call_unf (d := db_law_cell) rfl rfl ρ h
  rw [key [some s, some (.im (.int i))] rfl]
  have fin : ∀ ρ j, finals ρ j [s, .im (.int i)] = .ok [] := by rcases hs with rfl | rfl <;> exact fun ρ j => rfl
  unfold b_law_cell
  by_cases h : i < ns.length
  · obtain ⟨x, _, hx⟩ := ints_at hi h
    refine ⟨x, ?_⟩
    simp only [evSs, evS, evE, evT, evEs, evAs, evO, evC, evR, evSc, evScN, srcN, slotC, R.ok_bind, R.exc_bind, R.bad_bind, R.ok_out, R.exc_out, R.bad_out, setS, cn_im, cn_own, cn_bor, cn_chg, cn_lst, cn_dct, cn_set, datR_im, datR_lst, tru_none, tru_bool, tru_int, tru_list, tru_tuple, trd_none, trd_bool, trd_int, trd_list, trd_tuple, len_list, len_tuple, len_dct, cv_int, cv_tup1, cv_tup2, cv_lst1, cv_lst2, slD_int, slD_tuple, slD_str, slD_list,
  isi_none, isi_bool, isi_int, isi_str, isi_tuple, isi_list, isTy, arg_im, arg_own, grd_true, get_0, get_s, var_eq, mov_eq, bor_eq, mut_eq, put_eq, fin_eq, lk_eq, un_eq, var_im, var_own, mov_im, mov_own, bor_im, bor_own, bor_bor, bor_chg, mut_own, mut_chg, put_own, put_chg, puts_nil, puts_cons, app_own, app_chg, isl_list, isd_dct, fin_nil, fin_im, fin_bor, fin_own, fin_chg, out_ret, out_nx, ob_nx, ob_ret, ob_brk, ob_cnt, ul_nx, ul_ret, bp_im, bp_own, bp_t, bps_nil, bps_cons, lk_nil, lk_im, lk_bor, lk_own, lk_chg, un_nil, un_own, un_chg, un_im, un_bor, nox_ok, if_true, if_false, Bool.false_eq_true, as_nil, as_e, as_bor, as_chg,
  As.muts, As.bors, Sc.locks, Rdo.locks, Pt.slots, Pt.slotss, wipeS, backS, bAdd, bSub, c_lt, c_le, c_gt, c_ge, c_eq, c_ne, c_eqs, augD, itemsE, itemsS, isN_none, isN_bool, isN_int, isN_str, isN_tuple, isN_list, opt_none, Bool.xor_false, Bool.false_xor, Bool.true_xor, Bool.xor_true,
  List.getElem?_cons_zero, List.getElem?_cons_succ, List.getElem?_nil, List.set_cons_zero, List.set_cons_succ, List.length_cons, List.length_nil, List.map_cons, List.map_nil, Bool.true_and, Bool.and_true, Bool.not_true, Bool.not_false, Bool.and_self, List.all_nil, List.all_cons, List.nodup_nil, List.nodup_cons, List.not_mem_nil, not_false_eq_true, and_true, List.contains_nil, List.contains_eq_mem, decide_true, decide_false, Option.getD_some, Option.getD_none, hc, List.length_map, h, idxL hx, fin]
  · refine ⟨0, ?_⟩
    simp only [evSs, evS, evE, evT, evEs, evAs, evO, evC, evR, evSc, evScN, srcN, slotC, R.ok_bind, R.exc_bind, R.bad_bind, R.ok_out, R.exc_out, R.bad_out, setS, cn_im, cn_own, cn_bor, cn_chg, cn_lst, cn_dct, cn_set, datR_im, datR_lst, tru_none, tru_bool, tru_int, tru_list, tru_tuple, trd_none, trd_bool, trd_int, trd_list, trd_tuple, len_list, len_tuple, len_dct, cv_int, cv_tup1, cv_tup2, cv_lst1, cv_lst2, slD_int, slD_tuple, slD_str, slD_list,
  isi_none, isi_bool, isi_int, isi_str, isi_tuple, isi_list, isTy, arg_im, arg_own, grd_true, get_0, get_s, var_eq, mov_eq, bor_eq, mut_eq, put_eq, fin_eq, lk_eq, un_eq, var_im, var_own, mov_im, mov_own, bor_im, bor_own, bor_bor, bor_chg, mut_own, mut_chg, put_own, put_chg, puts_nil, puts_cons, app_own, app_chg, isl_list, isd_dct, fin_nil, fin_im, fin_bor, fin_own, fin_chg, out_ret, out_nx, ob_nx, ob_ret, ob_brk, ob_cnt, ul_nx, ul_ret, bp_im, bp_own, bp_t, bps_nil, bps_cons, lk_nil, lk_im, lk_bor, lk_own, lk_chg, un_nil, un_own, un_chg, un_im, un_bor, nox_ok, if_true, if_false, Bool.false_eq_true, as_nil, as_e, as_bor, as_chg,
  As.muts, As.bors, Sc.locks, Rdo.locks, Pt.slots, Pt.slotss, wipeS, backS, bAdd, bSub, c_lt, c_le, c_gt, c_ge, c_eq, c_ne, c_eqs, augD, itemsE, itemsS, isN_none, isN_bool, isN_int, isN_str, isN_tuple, isN_list, opt_none, Bool.xor_false, Bool.false_xor, Bool.true_xor, Bool.xor_true,
  List.getElem?_cons_zero, List.getElem?_cons_succ, List.getElem?_nil, List.set_cons_zero, List.set_cons_succ, List.length_cons, List.length_nil, List.map_cons, List.map_nil, Bool.true_and, Bool.and_true, Bool.not_true, Bool.not_false, Bool.and_self, List.all_nil, List.all_cons, List.nodup_nil, List.nodup_cons, List.not_mem_nil, not_false_eq_true, and_true, List.contains_nil, List.contains_eq_mem, decide_true, decide_false, Option.getD_some, Option.getD_none, hc, List.length_map, h, fin]
theorem mod1000 {x : Int} : binD .mod (.int x) (.int 1000) = .ok (.int (x % 1000)) := bMod (by decide)
/-- the digits of the box -/
theorem digits_ok {k : Nat} {ns : List Int} {s : Sl} {a b : Int} (hs : IsScript s ns) (ha : 0 ≤ a) (hb : b ≤ 1000) (hab : a ≤ b) : ∃ l : List Int, C (k + 2) i_law_digits [s, .im (.int a), .im (.int b)] = .ok (.own (.lst (l.map PyData.int)), []) := by
  have hbor : borF (some (some s)) = .ok s := by rcases hs with rfl | rfl <;> rfl
  have key : ∀ ρ, startS db_law_digits.fd [s, .im (.int a), .im (.int b)] = ρ → C (k + 2) i_law_digits [s, .im (.int a), .im (.int b)] = outCall [s, .im (.int a), .im (.int b)] (evSs (C (k + 1)) 200 b_law_digits ρ) := fun ρ h => call_unf (d := db_law_digits) rfl rfl ρ h
  rw [key [some s, some (.im (.int a)), some (.im (.int b)), none, none, none, none, none] rfl]
  have fin : ∀ ρ j, finals ρ j [s, .im (.int a), .im (.int b)] = .ok [] := by rcases hs with rfl | rfl <;> exact fun ρ j => rfl
  have hr : (range62 a && range62 b) = true := by
    rw [r62_int (i := a) (by omega) (by omega), r62_int (i := b) (by omega) (by omega)]; rfl
  have m2 : ∀ x, binD .mod (.int x) (.int 2147483647) = .ok (.int (x % 2147483647)) := fun x => bMod (by decide)
  have m3 : ∀ x, binD .fdiv (.int x) (.int 1000) = .ok (.int (x / 1000)) := fun x => bFdiv (by decide) (by decide)
  have m4 : ∀ x, binD .fdiv (.int x) (.int 997) = .ok (.int (x / 997)) := fun x => bFdiv (by decide) (by decide)
  have m5 : ∀ x, binD .mul (.int 2) (.int x) = .ok (.int (2 * x)) := fun x => bMulL (by decide)
  have m6 : ∀ x, binD .mul (.int x) (.int 48271) = .ok (.int (x * 48271)) := fun x => bMulR (by decide)
  have m7 : ∀ x, binD .mul (.int x) (.int 69621) = .ok (.int (x * 69621)) := fun x => bMulR (by decide)
  have m8 : ∀ x, binD .mul (.int x) (.int 16807) = .ok (.int (x * 16807)) := fun x => bMulR (by decide)
  have m9 : ∀ x, binD .mul (.int 7) (.int x) = .ok (.int (7 * x)) := fun x => bMulL (by decide)
  have m10 : binD .pow (.int 10) (.int 18) = .ok (.int 1000000000000000000) := rfl
  have r60 : range62 60 = true := by decide
  have r12 : range62 12 = true := by decide
  have app : ∀ (l : List Int) (x : Int), (l.map PyData.int) ++ [PyData.int x] = (l ++ [x]).map PyData.int := fun l x => by simp
  let St (l : List Int) (c : Int) (ρ : Sv) : Prop := ∃ x6 x7 : Option Sl, ∃ x5 : Int, ρ = [some s, some (.im (.int a)), some (.im (.int b)), some (.own (.lst (l.map PyData.int))), some (.im (.int c)), some (.im (.int x5)), x6, x7]
  -- a turn of the loops within
  have inA : ∀ (l0 : List Int) (c : Int) (ρ : Sv), l0.length ≤ 60000 → St l0 c ρ → ∃ ρ' l', loopF (.v 6) (evSs (C (k + 1)) 200 b_law_digits_0) (rangeD 0 60) ρ = .nx ρ' ∧ St l' c ρ' ∧ l'.length ≤ l0.length + 60 := by
    intro l0 c ρ hl h0
    obtain ⟨ρ', h1, l', h2, h3⟩ := loopF_r (j := 6) (lo := 0) (n := 60) (b := evSs (C (k + 1)) 200 b_law_digits_0) (fun i ρ => ∃ l, St l c ρ ∧ l.length ≤ l0.length + i) (fun i ρ hi ⟨l, ⟨x6, x7, x5, e⟩, hll⟩ => by
        subst e
        by_cases h : 0 < x5
        · have hlt : (l.map PyData.int).length < lineN := by rw [List.length_map]; unfold lineN; omega
          refine ⟨[some s, some (.im (.int a)), some (.im (.int b)), some (.own (.lst ((l ++ [x5 % 1000]).map PyData.int))), some (.im (.int c)), some (.im (.int (x5 / 1000))), some (.im (.int (0 + i))), x7], ?_, l ++ [x5 % 1000], ⟨_, _, _, rfl⟩, by rw [List.length_append]; simp; omega⟩
          simp only [b_law_digits_0, evSs, evS, evE, evT, evEs, evAs, evO, evC, evR, evSc, evScN, srcN, slotC, R.ok_bind, R.exc_bind, R.bad_bind, R.ok_out, R.exc_out, R.bad_out, setS, cn_im, cn_own, cn_bor, cn_chg, cn_lst, cn_dct, cn_set, datR_im, datR_lst, tru_none, tru_bool, tru_int, tru_list, tru_tuple, trd_none, trd_bool, trd_int, trd_list, trd_tuple, len_list, len_tuple, len_dct, cv_int, cv_tup1, cv_tup2, cv_lst1, cv_lst2, slD_int, slD_tuple, slD_str, slD_list,
  isi_none, isi_bool, isi_int, isi_str, isi_tuple, isi_list, isTy, arg_im, arg_own, grd_true, get_0, get_s, var_eq, mov_eq, bor_eq, mut_eq, put_eq, fin_eq, lk_eq, un_eq, var_im, var_own, mov_im, mov_own, bor_im, bor_own, bor_bor, bor_chg, mut_own, mut_chg, put_own, put_chg, puts_nil, puts_cons, app_own, app_chg, isl_list, isd_dct, fin_nil, fin_im, fin_bor, fin_own, fin_chg, out_ret, out_nx, ob_nx, ob_ret, ob_brk, ob_cnt, ul_nx, ul_ret, bp_im, bp_own, bp_t, bps_nil, bps_cons, lk_nil, lk_im, lk_bor, lk_own, lk_chg, un_nil, un_own, un_chg, un_im, un_bor, nox_ok, if_true, if_false, Bool.false_eq_true, as_nil, as_e, as_bor, as_chg,
  As.muts, As.bors, Sc.locks, Rdo.locks, Pt.slots, Pt.slotss, wipeS, backS, bAdd, bSub, c_lt, c_le, c_gt, c_ge, c_eq, c_ne, c_eqs, augD, itemsE, itemsS, isN_none, isN_bool, isN_int, isN_str, isN_tuple, isN_list, opt_none, Bool.xor_false, Bool.false_xor, Bool.true_xor, Bool.xor_true,
  List.getElem?_cons_zero, List.getElem?_cons_succ, List.getElem?_nil, List.set_cons_zero, List.set_cons_succ, List.length_cons, List.length_nil, List.map_cons, List.map_nil, Bool.true_and, Bool.and_true, Bool.not_true, Bool.not_false, Bool.and_self, List.all_nil, List.all_cons, List.nodup_nil, List.nodup_cons, List.not_mem_nil, not_false_eq_true, and_true, List.contains_nil, List.contains_eq_mem, decide_true, decide_false, Option.getD_some, Option.getD_none, h, mod1000, m3, app_own hlt, app]
        · refine ⟨[some s, some (.im (.int a)), some (.im (.int b)), some (.own (.lst (l.map PyData.int))), some (.im (.int c)), some (.im (.int x5)), some (.im (.int (0 + i))), x7], ?_, l, ⟨_, _, _, rfl⟩, by omega⟩
          simp only [b_law_digits_0, evSs, evS, evE, evT, evEs, evAs, evO, evC, evR, evSc, evScN, srcN, slotC, R.ok_bind, R.exc_bind, R.bad_bind, R.ok_out, R.exc_out, R.bad_out, setS, cn_im, cn_own, cn_bor, cn_chg, cn_lst, cn_dct, cn_set, datR_im, datR_lst, tru_none, tru_bool, tru_int, tru_list, tru_tuple, trd_none, trd_bool, trd_int, trd_list, trd_tuple, len_list, len_tuple, len_dct, cv_int, cv_tup1, cv_tup2, cv_lst1, cv_lst2, slD_int, slD_tuple, slD_str, slD_list,
  isi_none, isi_bool, isi_int, isi_str, isi_tuple, isi_list, isTy, arg_im, arg_own, grd_true, get_0, get_s, var_eq, mov_eq, bor_eq, mut_eq, put_eq, fin_eq, lk_eq, un_eq, var_im, var_own, mov_im, mov_own, bor_im, bor_own, bor_bor, bor_chg, mut_own, mut_chg, put_own, put_chg, puts_nil, puts_cons, app_own, app_chg, isl_list, isd_dct, fin_nil, fin_im, fin_bor, fin_own, fin_chg, out_ret, out_nx, ob_nx, ob_ret, ob_brk, ob_cnt, ul_nx, ul_ret, bp_im, bp_own, bp_t, bps_nil, bps_cons, lk_nil, lk_im, lk_bor, lk_own, lk_chg, un_nil, un_own, un_chg, un_im, un_bor, nox_ok, if_true, if_false, Bool.false_eq_true, as_nil, as_e, as_bor, as_chg,
  As.muts, As.bors, Sc.locks, Rdo.locks, Pt.slots, Pt.slotss, wipeS, backS, bAdd, bSub, c_lt, c_le, c_gt, c_ge, c_eq, c_ne, c_eqs, augD, itemsE, itemsS, isN_none, isN_bool, isN_int, isN_str, isN_tuple, isN_list, opt_none, Bool.xor_false, Bool.false_xor, Bool.true_xor, Bool.xor_true,
  List.getElem?_cons_zero, List.getElem?_cons_succ, List.getElem?_nil, List.set_cons_zero, List.set_cons_succ, List.length_cons, List.length_nil, List.map_cons, List.map_nil, Bool.true_and, Bool.and_true, Bool.not_true, Bool.not_false, Bool.and_self, List.all_nil, List.all_cons, List.nodup_nil, List.nodup_cons, List.not_mem_nil, not_false_eq_true, and_true, List.contains_nil, List.contains_eq_mem, decide_true, decide_false, Option.getD_some, Option.getD_none, h]) ρ ⟨l0, h0, Nat.le_refl _⟩
    exact ⟨ρ', l', h1, h2, h3⟩
  have inB : ∀ (l0 : List Int) (c : Int) (y : Int) (ρ : Sv), l0.length ≤ 60000 → (∃ x6 : Option Sl, ∃ x5 : Int, ρ = [some s, some (.im (.int a)), some (.im (.int b)), some (.own (.lst (l0.map PyData.int))), some (.im (.int c)), some (.im (.int x5)), x6, some (.im (.int y))]) → ∃ ρ' l', loopF (.v 6) (evSs (C (k + 1)) 200 b_law_digits_1) (rangeD 0 12) ρ = .nx ρ' ∧ St l' c ρ' ∧ l'.length ≤ l0.length + 60 := by
    intro l0 c y ρ hl ⟨x6, x5, h0⟩
    obtain ⟨ρ', h1, l', ⟨x6, x5, y, h2⟩, h3⟩ := loopF_r (j := 6) (lo := 0) (n := 12) (b := evSs (C (k + 1)) 200 b_law_digits_1) (fun i ρ => ∃ l, (∃ x6 : Option Sl, ∃ x5 y : Int, ρ = [some s, some (.im (.int a)), some (.im (.int b)), some (.own (.lst (l.map PyData.int))), some (.im (.int c)), some (.im (.int x5)), x6, some (.im (.int y))]) ∧ l.length ≤ l0.length + i) (fun i ρ hi ⟨l, ⟨x6, x5, y, e⟩, hll⟩ => by
        subst e
        have hlt : (l.map PyData.int).length < lineN := by rw [List.length_map]; unfold lineN; omega
        refine ⟨_, ?_, l ++ [(y * 16807 + 7 * (0 + (i : Int)) + 1) % 2147483647 / 997 % 1000], ⟨some (.im (.int (0 + i))), x5, (y * 16807 + 7 * (0 + (i : Int)) + 1) % 2147483647, rfl⟩, by rw [List.length_append]; simp; omega⟩
        simp only [b_law_digits_1, evSs, evS, evE, evT, evEs, evAs, evO, evC, evR, evSc, evScN, srcN, slotC, R.ok_bind, R.exc_bind, R.bad_bind, R.ok_out, R.exc_out, R.bad_out, setS, cn_im, cn_own, cn_bor, cn_chg, cn_lst, cn_dct, cn_set, datR_im, datR_lst, tru_none, tru_bool, tru_int, tru_list, tru_tuple, trd_none, trd_bool, trd_int, trd_list, trd_tuple, len_list, len_tuple, len_dct, cv_int, cv_tup1, cv_tup2, cv_lst1, cv_lst2, slD_int, slD_tuple, slD_str, slD_list,
  isi_none, isi_bool, isi_int, isi_str, isi_tuple, isi_list, isTy, arg_im, arg_own, grd_true, get_0, get_s, var_eq, mov_eq, bor_eq, mut_eq, put_eq, fin_eq, lk_eq, un_eq, var_im, var_own, mov_im, mov_own, bor_im, bor_own, bor_bor, bor_chg, mut_own, mut_chg, put_own, put_chg, puts_nil, puts_cons, app_own, app_chg, isl_list, isd_dct, fin_nil, fin_im, fin_bor, fin_own, fin_chg, out_ret, out_nx, ob_nx, ob_ret, ob_brk, ob_cnt, ul_nx, ul_ret, bp_im, bp_own, bp_t, bps_nil, bps_cons, lk_nil, lk_im, lk_bor, lk_own, lk_chg, un_nil, un_own, un_chg, un_im, un_bor, nox_ok, if_true, if_false, Bool.false_eq_true, as_nil, as_e, as_bor, as_chg,
  As.muts, As.bors, Sc.locks, Rdo.locks, Pt.slots, Pt.slotss, wipeS, backS, bAdd, bSub, c_lt, c_le, c_gt, c_ge, c_eq, c_ne, c_eqs, augD, itemsE, itemsS, isN_none, isN_bool, isN_int, isN_str, isN_tuple, isN_list, opt_none, Bool.xor_false, Bool.false_xor, Bool.true_xor, Bool.xor_true,
  List.getElem?_cons_zero, List.getElem?_cons_succ, List.getElem?_nil, List.set_cons_zero, List.set_cons_succ, List.length_cons, List.length_nil, List.map_cons, List.map_nil, Bool.true_and, Bool.and_true, Bool.not_true, Bool.not_false, Bool.and_self, List.all_nil, List.all_cons, List.nodup_nil, List.nodup_cons, List.not_mem_nil, not_false_eq_true, and_true, List.contains_nil, List.contains_eq_mem, decide_true, decide_false, Option.getD_some, Option.getD_none, mod1000, m2, m4, m8, m9, app_own hlt, app]) ρ ⟨l0, ⟨x6, x5, y, h0⟩, Nat.le_refl _⟩
    exact ⟨ρ', l', h1, ⟨x6, some (.im (.int y)), x5, h2⟩, by omega⟩
  -- the loop without
  let St0 (l : List Int) (ρ : Sv) : Prop := ∃ x4 x5 x6 x7 : Option Sl, ρ = [some s, some (.im (.int a)), some (.im (.int b)), some (.own (.lst (l.map PyData.int))), x4, x5, x6, x7]
  have outer : ∃ ρ' l, loopF (.v 4) (evSs (C (k + 1)) 200 b_law_digits_2) (rangeD a (b - a).toNat) [some s, some (.im (.int a)), some (.im (.int b)), some (.own (.lst [])), none, none, none, none] = .nx ρ' ∧ St0 l ρ' := by
    obtain ⟨ρ', h1, l, h2, h3⟩ := loopF_r (j := 4) (lo := a) (n := (b - a).toNat) (b := evSs (C (k + 1)) 200 b_law_digits_2) (fun i ρ => ∃ l, St0 l ρ ∧ l.length ≤ 60 * i) (fun i ρ hi ⟨l, ⟨x4, x5, x6, x7, e⟩, hll⟩ => by
      subst e
      obtain ⟨c, hcell⟩ := cell_ok (k := k) (i := a + i) hs (by omega)
      have hl6 : l.length ≤ 60000 := by omega
      -- the cell's value, not negative
      let y : Int := if c < 0 then 1 - 2 * c else c
      have e1 : ∀ (Z : Ss), evSs (C (k + 1)) 200 (.cons (.asg (.v 5) (.call i_law_cell (.bor 0 (.bor 4 .nil)))) (.cons (.iff (.cmp .lt (.var 5) (.lit (.int 0))) (.cons (.asg (.v 5) (.bin .sub (.lit (.int 1)) (.bin .mul (.lit (.int 2)) (.var 5)))) .nil) .nil) Z))
          [some s, some (.im (.int a)), some (.im (.int b)), some (.own (.lst (l.map PyData.int))), some (.im (.int (a + i))), x5, x6, x7] = evSs (C (k + 1)) 200 Z [some s, some (.im (.int a)), some (.im (.int b)), some (.own (.lst (l.map PyData.int))), some (.im (.int (a + i))), some (.im (.int y)), x6, x7] := fun Z => by
        by_cases h : c < 0
        · have : y = 1 - 2 * c := if_pos h
          rw [this]
          simp only [evSs, evS, evE, evT, evEs, evAs, evO, evC, evR, evSc, evScN, srcN, slotC, R.ok_bind, R.exc_bind, R.bad_bind, R.ok_out, R.exc_out, R.bad_out, setS, cn_im, cn_own, cn_bor, cn_chg, cn_lst, cn_dct, cn_set, datR_im, datR_lst, tru_none, tru_bool, tru_int, tru_list, tru_tuple, trd_none, trd_bool, trd_int, trd_list, trd_tuple, len_list, len_tuple, len_dct, cv_int, cv_tup1, cv_tup2, cv_lst1, cv_lst2, slD_int, slD_tuple, slD_str, slD_list,
  isi_none, isi_bool, isi_int, isi_str, isi_tuple, isi_list, isTy, arg_im, arg_own, grd_true, get_0, get_s, var_eq, mov_eq, bor_eq, mut_eq, put_eq, fin_eq, lk_eq, un_eq, var_im, var_own, mov_im, mov_own, bor_im, bor_own, bor_bor, bor_chg, mut_own, mut_chg, put_own, put_chg, puts_nil, puts_cons, app_own, app_chg, isl_list, isd_dct, fin_nil, fin_im, fin_bor, fin_own, fin_chg, out_ret, out_nx, ob_nx, ob_ret, ob_brk, ob_cnt, ul_nx, ul_ret, bp_im, bp_own, bp_t, bps_nil, bps_cons, lk_nil, lk_im, lk_bor, lk_own, lk_chg, un_nil, un_own, un_chg, un_im, un_bor, nox_ok, if_true, if_false, Bool.false_eq_true, as_nil, as_e, as_bor, as_chg,
  As.muts, As.bors, Sc.locks, Rdo.locks, Pt.slots, Pt.slotss, wipeS, backS, bAdd, bSub, c_lt, c_le, c_gt, c_ge, c_eq, c_ne, c_eqs, augD, itemsE, itemsS, isN_none, isN_bool, isN_int, isN_str, isN_tuple, isN_list, opt_none, Bool.xor_false, Bool.false_xor, Bool.true_xor, Bool.xor_true,
  List.getElem?_cons_zero, List.getElem?_cons_succ, List.getElem?_nil, List.set_cons_zero, List.set_cons_succ, List.length_cons, List.length_nil, List.map_cons, List.map_nil, Bool.true_and, Bool.and_true, Bool.not_true, Bool.not_false, Bool.and_self, List.all_nil, List.all_cons, List.nodup_nil, List.nodup_cons, List.not_mem_nil, not_false_eq_true, and_true, List.contains_nil, List.contains_eq_mem, decide_true, decide_false, Option.getD_some, Option.getD_none, hbor, hcell, h, m5]
        · have : y = c := if_neg h
          rw [this]
          simp only [evSs, evS, evE, evT, evEs, evAs, evO, evC, evR, evSc, evScN, srcN, slotC, R.ok_bind, R.exc_bind, R.bad_bind, R.ok_out, R.exc_out, R.bad_out, setS, cn_im, cn_own, cn_bor, cn_chg, cn_lst, cn_dct, cn_set, datR_im, datR_lst, tru_none, tru_bool, tru_int, tru_list, tru_tuple, trd_none, trd_bool, trd_int, trd_list, trd_tuple, len_list, len_tuple, len_dct, cv_int, cv_tup1, cv_tup2, cv_lst1, cv_lst2, slD_int, slD_tuple, slD_str, slD_list,
  isi_none, isi_bool, isi_int, isi_str, isi_tuple, isi_list, isTy, arg_im, arg_own, grd_true, get_0, get_s, var_eq, mov_eq, bor_eq, mut_eq, put_eq, fin_eq, lk_eq, un_eq, var_im, var_own, mov_im, mov_own, bor_im, bor_own, bor_bor, bor_chg, mut_own, mut_chg, put_own, put_chg, puts_nil, puts_cons, app_own, app_chg, isl_list, isd_dct, fin_nil, fin_im, fin_bor, fin_own, fin_chg, out_ret, out_nx, ob_nx, ob_ret, ob_brk, ob_cnt, ul_nx, ul_ret, bp_im, bp_own, bp_t, bps_nil, bps_cons, lk_nil, lk_im, lk_bor, lk_own, lk_chg, un_nil, un_own, un_chg, un_im, un_bor, nox_ok, if_true, if_false, Bool.false_eq_true, as_nil, as_e, as_bor, as_chg,
  As.muts, As.bors, Sc.locks, Rdo.locks, Pt.slots, Pt.slotss, wipeS, backS, bAdd, bSub, c_lt, c_le, c_gt, c_ge, c_eq, c_ne, c_eqs, augD, itemsE, itemsS, isN_none, isN_bool, isN_int, isN_str, isN_tuple, isN_list, opt_none, Bool.xor_false, Bool.false_xor, Bool.true_xor, Bool.xor_true,
  List.getElem?_cons_zero, List.getElem?_cons_succ, List.getElem?_nil, List.set_cons_zero, List.set_cons_succ, List.length_cons, List.length_nil, List.map_cons, List.map_nil, Bool.true_and, Bool.and_true, Bool.not_true, Bool.not_false, Bool.and_self, List.all_nil, List.all_cons, List.nodup_nil, List.nodup_cons, List.not_mem_nil, not_false_eq_true, and_true, List.contains_nil, List.contains_eq_mem, decide_true, decide_false, Option.getD_some, Option.getD_none, hbor, hcell, h]
      by_cases hbig : (1000000000000000000 : Int) ≤ y
      · obtain ⟨ρ', l', h1, ⟨z6, z7, z5, h2⟩, h3⟩ := inA l (a + i) [some s, some (.im (.int a)), some (.im (.int b)), some (.own (.lst (l.map PyData.int))), some (.im (.int (a + i))), some (.im (.int y)), x6, x7] hl6 ⟨x6, x7, y, rfl⟩
        refine ⟨ρ', ?_, l', ⟨_, _, _, _, h2⟩, by omega⟩
        refine Eq.trans (e1 _) ?_
        have e60 : (Int.toNat 60) = 60 := rfl
        simp only [evSs, evS, evE, evT, evEs, evAs, evO, evC, evR, evSc, evScN, srcN, slotC, R.ok_bind, R.exc_bind, R.bad_bind, R.ok_out, R.exc_out, R.bad_out, setS, cn_im, cn_own, cn_bor, cn_chg, cn_lst, cn_dct, cn_set, datR_im, datR_lst, tru_none, tru_bool, tru_int, tru_list, tru_tuple, trd_none, trd_bool, trd_int, trd_list, trd_tuple, len_list, len_tuple, len_dct, cv_int, cv_tup1, cv_tup2, cv_lst1, cv_lst2, slD_int, slD_tuple, slD_str, slD_list,
  isi_none, isi_bool, isi_int, isi_str, isi_tuple, isi_list, isTy, arg_im, arg_own, grd_true, get_0, get_s, var_eq, mov_eq, bor_eq, mut_eq, put_eq, fin_eq, lk_eq, un_eq, var_im, var_own, mov_im, mov_own, bor_im, bor_own, bor_bor, bor_chg, mut_own, mut_chg, put_own, put_chg, puts_nil, puts_cons, app_own, app_chg, isl_list, isd_dct, fin_nil, fin_im, fin_bor, fin_own, fin_chg, out_ret, out_nx, ob_nx, ob_ret, ob_brk, ob_cnt, ul_nx, ul_ret, bp_im, bp_own, bp_t, bps_nil, bps_cons, lk_nil, lk_im, lk_bor, lk_own, lk_chg, un_nil, un_own, un_chg, un_im, un_bor, nox_ok, if_true, if_false, Bool.false_eq_true, as_nil, as_e, as_bor, as_chg,
  As.muts, As.bors, Sc.locks, Rdo.locks, Pt.slots, Pt.slotss, wipeS, backS, bAdd, bSub, c_lt, c_le, c_gt, c_ge, c_eq, c_ne, c_eqs, augD, itemsE, itemsS, isN_none, isN_bool, isN_int, isN_str, isN_tuple, isN_list, opt_none, Bool.xor_false, Bool.false_xor, Bool.true_xor, Bool.xor_true,
  List.getElem?_cons_zero, List.getElem?_cons_succ, List.getElem?_nil, List.set_cons_zero, List.set_cons_succ, List.length_cons, List.length_nil, List.map_cons, List.map_nil, Bool.true_and, Bool.and_true, Bool.not_true, Bool.not_false, Bool.and_self, List.all_nil, List.all_cons, List.nodup_nil, List.nodup_cons, List.not_mem_nil, not_false_eq_true, and_true, List.contains_nil, List.contains_eq_mem, decide_true, decide_false, Option.getD_some, Option.getD_none, m10, hbig, r60, e60, h1]
      · obtain ⟨ρ', l', h1, ⟨z6, z7, z5, h2⟩, h3⟩ := inB l (a + i) ((y * 48271 + (a + i) * 69621 + 11) % 2147483647) [some s, some (.im (.int a)), some (.im (.int b)), some (.own (.lst (l.map PyData.int))), some (.im (.int (a + i))), some (.im (.int y)), x6, some (.im (.int ((y * 48271 + (a + i) * 69621 + 11) % 2147483647)))] hl6 ⟨x6, y, rfl⟩
        refine ⟨ρ', ?_, l', ⟨_, _, _, _, h2⟩, by omega⟩
        refine Eq.trans (e1 _) ?_
        have e12 : (Int.toNat 12) = 12 := rfl
        simp only [evSs, evS, evE, evT, evEs, evAs, evO, evC, evR, evSc, evScN, srcN, slotC, R.ok_bind, R.exc_bind, R.bad_bind, R.ok_out, R.exc_out, R.bad_out, setS, cn_im, cn_own, cn_bor, cn_chg, cn_lst, cn_dct, cn_set, datR_im, datR_lst, tru_none, tru_bool, tru_int, tru_list, tru_tuple, trd_none, trd_bool, trd_int, trd_list, trd_tuple, len_list, len_tuple, len_dct, cv_int, cv_tup1, cv_tup2, cv_lst1, cv_lst2, slD_int, slD_tuple, slD_str, slD_list,
  isi_none, isi_bool, isi_int, isi_str, isi_tuple, isi_list, isTy, arg_im, arg_own, grd_true, get_0, get_s, var_eq, mov_eq, bor_eq, mut_eq, put_eq, fin_eq, lk_eq, un_eq, var_im, var_own, mov_im, mov_own, bor_im, bor_own, bor_bor, bor_chg, mut_own, mut_chg, put_own, put_chg, puts_nil, puts_cons, app_own, app_chg, isl_list, isd_dct, fin_nil, fin_im, fin_bor, fin_own, fin_chg, out_ret, out_nx, ob_nx, ob_ret, ob_brk, ob_cnt, ul_nx, ul_ret, bp_im, bp_own, bp_t, bps_nil, bps_cons, lk_nil, lk_im, lk_bor, lk_own, lk_chg, un_nil, un_own, un_chg, un_im, un_bor, nox_ok, if_true, if_false, Bool.false_eq_true, as_nil, as_e, as_bor, as_chg,
  As.muts, As.bors, Sc.locks, Rdo.locks, Pt.slots, Pt.slotss, wipeS, backS, bAdd, bSub, c_lt, c_le, c_gt, c_ge, c_eq, c_ne, c_eqs, augD, itemsE, itemsS, isN_none, isN_bool, isN_int, isN_str, isN_tuple, isN_list, opt_none, Bool.xor_false, Bool.false_xor, Bool.true_xor, Bool.xor_true,
  List.getElem?_cons_zero, List.getElem?_cons_succ, List.getElem?_nil, List.set_cons_zero, List.set_cons_succ, List.length_cons, List.length_nil, List.map_cons, List.map_nil, Bool.true_and, Bool.and_true, Bool.not_true, Bool.not_false, Bool.and_self, List.all_nil, List.all_cons, List.nodup_nil, List.nodup_cons, List.not_mem_nil, not_false_eq_true, and_true, List.contains_nil, List.contains_eq_mem, decide_true, decide_false, Option.getD_some, Option.getD_none, m10, hbig, r12, e12, h1, m6, m7, m2]) [some s, some (.im (.int a)), some (.im (.int b)), some (.own (.lst [])), none, none, none, none] ⟨[], ⟨none, none, none, none, rfl⟩, Nat.zero_le _⟩
    exact ⟨ρ', l, h1, h2⟩
  obtain ⟨ρ', l, h1, x4, x5, x6, x7, rfl⟩ := outer
  refine ⟨l, ?_⟩
  unfold b_law_digits
  simp only [evSs, evS, evE, evT, evEs, evAs, evO, evC, evR, evSc, evScN, srcN, slotC, R.ok_bind, R.exc_bind, R.bad_bind, R.ok_out, R.exc_out, R.bad_out, setS, cn_im, cn_own, cn_bor, cn_chg, cn_lst, cn_dct, cn_set, datR_im, datR_lst, tru_none, tru_bool, tru_int, tru_list, tru_tuple, trd_none, trd_bool, trd_int, trd_list, trd_tuple, len_list, len_tuple, len_dct, cv_int, cv_tup1, cv_tup2, cv_lst1, cv_lst2, slD_int, slD_tuple, slD_str, slD_list,
  isi_none, isi_bool, isi_int, isi_str, isi_tuple, isi_list, isTy, arg_im, arg_own, grd_true, get_0, get_s, var_eq, mov_eq, bor_eq, mut_eq, put_eq, fin_eq, lk_eq, un_eq, var_im, var_own, mov_im, mov_own, bor_im, bor_own, bor_bor, bor_chg, mut_own, mut_chg, put_own, put_chg, puts_nil, puts_cons, app_own, app_chg, isl_list, isd_dct, fin_nil, fin_im, fin_bor, fin_own, fin_chg, out_ret, out_nx, ob_nx, ob_ret, ob_brk, ob_cnt, ul_nx, ul_ret, bp_im, bp_own, bp_t, bps_nil, bps_cons, lk_nil, lk_im, lk_bor, lk_own, lk_chg, un_nil, un_own, un_chg, un_im, un_bor, nox_ok, if_true, if_false, Bool.false_eq_true, as_nil, as_e, as_bor, as_chg,
  As.muts, As.bors, Sc.locks, Rdo.locks, Pt.slots, Pt.slotss, wipeS, backS, bAdd, bSub, c_lt, c_le, c_gt, c_ge, c_eq, c_ne, c_eqs, augD, itemsE, itemsS, isN_none, isN_bool, isN_int, isN_str, isN_tuple, isN_list, opt_none, Bool.xor_false, Bool.false_xor, Bool.true_xor, Bool.xor_true,
  List.getElem?_cons_zero, List.getElem?_cons_succ, List.getElem?_nil, List.set_cons_zero, List.set_cons_succ, List.length_cons, List.length_nil, List.map_cons, List.map_nil, Bool.true_and, Bool.and_true, Bool.not_true, Bool.not_false, Bool.and_self, List.all_nil, List.all_cons, List.nodup_nil, List.nodup_cons, List.not_mem_nil, not_false_eq_true, and_true, List.contains_nil, List.contains_eq_mem, decide_true, decide_false, Option.getD_some, Option.getD_none, hr, h1, fin]
theorem box_ok {k : Nat} {ns : List Int} {s : Sl} {a b : Int} (hs : IsScript s ns) (ha : 0 ≤ a) (hb : b ≤ 1000) (hab : a ≤ b) : ∃ l : List Int, C (k + 3) i_law_box [s, .im (.int a), .im (.int b)] = .ok (.own (boxC l 0), []) := by
  obtain ⟨l, h⟩ := digits_ok (k := k) hs ha hb hab
  have hbor : borF (some (some s)) = .ok s := by rcases hs with rfl | rfl <;> rfl
  have key : ∀ ρ, startS db_law_box.fd [s, .im (.int a), .im (.int b)] = ρ → C (k + 3) i_law_box [s, .im (.int a), .im (.int b)] = outCall [s, .im (.int a), .im (.int b)] (evSs (C (k + 2)) 200 b_law_box ρ) := fun ρ h => call_unf (d := db_law_box) rfl rfl ρ h
  rw [key [some s, some (.im (.int a)), some (.im (.int b))] rfl]
  have fin : ∀ ρ j, finals ρ j [s, .im (.int a), .im (.int b)] = .ok [] := by rcases hs with rfl | rfl <;> exact fun ρ j => rfl
  refine ⟨l, ?_⟩
  unfold b_law_box
  simp only [evSs, evS, evE, evT, evEs, evAs, evO, evC, evR, evSc, evScN, srcN, slotC, R.ok_bind, R.exc_bind, R.bad_bind, R.ok_out, R.exc_out, R.bad_out, setS, cn_im, cn_own, cn_bor, cn_chg, cn_lst, cn_dct, cn_set, datR_im, datR_lst, tru_none, tru_bool, tru_int, tru_list, tru_tuple, trd_none, trd_bool, trd_int, trd_list, trd_tuple, len_list, len_tuple, len_dct, cv_int, cv_tup1, cv_tup2, cv_lst1, cv_lst2, slD_int, slD_tuple, slD_str, slD_list,
  isi_none, isi_bool, isi_int, isi_str, isi_tuple, isi_list, isTy, arg_im, arg_own, grd_true, get_0, get_s, var_eq, mov_eq, bor_eq, mut_eq, put_eq, fin_eq, lk_eq, un_eq, var_im, var_own, mov_im, mov_own, bor_im, bor_own, bor_bor, bor_chg, mut_own, mut_chg, put_own, put_chg, puts_nil, puts_cons, app_own, app_chg, isl_list, isd_dct, fin_nil, fin_im, fin_bor, fin_own, fin_chg, out_ret, out_nx, ob_nx, ob_ret, ob_brk, ob_cnt, ul_nx, ul_ret, bp_im, bp_own, bp_t, bps_nil, bps_cons, lk_nil, lk_im, lk_bor, lk_own, lk_chg, un_nil, un_own, un_chg, un_im, un_bor, nox_ok, if_true, if_false, Bool.false_eq_true, as_nil, as_e, as_bor, as_chg,
  As.muts, As.bors, Sc.locks, Rdo.locks, Pt.slots, Pt.slotss, wipeS, backS, bAdd, bSub, c_lt, c_le, c_gt, c_ge, c_eq, c_ne, c_eqs, augD, itemsE, itemsS, isN_none, isN_bool, isN_int, isN_str, isN_tuple, isN_list, opt_none, Bool.xor_false, Bool.false_xor, Bool.true_xor, Bool.xor_true,
  List.getElem?_cons_zero, List.getElem?_cons_succ, List.getElem?_nil, List.set_cons_zero, List.set_cons_succ, List.length_cons, List.length_nil, List.map_cons, List.map_nil, Bool.true_and, Bool.and_true, Bool.not_true, Bool.not_false, Bool.and_self, List.all_nil, List.all_cons, List.nodup_nil, List.nodup_cons, List.not_mem_nil, not_false_eq_true, and_true, List.contains_nil, List.contains_eq_mem, decide_true, decide_false, Option.getD_some, Option.getD_none, hbor, h, fin]
  rfl
end K23

set_option Elab.async false
set_option linter.all false
set_option maxRecDepth 100000
set_option maxHeartbeats 0
namespace K23
open PySem PySem.Spec L2 Wk
theorem number_ok {k : Nat} {l nums : List Int} {a : Int} (ha : 0 ≤ a) : ∃ (r : Option Int) (a' : Int), a ≤ a' ∧ (∀ x, r = some x → x ∈ nums) ∧ C (k + 2) i_law_number [.chg (boxC l a), .bor (.lst (nums.map PyData.int))] = .ok (.im (optD r), [boxC l a']) := by
  have key : ∀ ρ, startS db_law_number.fd [.chg (boxC l a), .bor (.lst (nums.map PyData.int))] = ρ → C (k + 2) i_law_number [.chg (boxC l a), .bor (.lst (nums.map PyData.int))] = outCall [.chg (boxC l a), .bor (.lst (nums.map PyData.int))] (evSs (C (k + 1)) 200 b_law_number ρ) := fun ρ h => call_unf (d := db_law_number) rfl rfl ρ h
  rw [key [some (.chg (boxC l a)), some (.bor (.lst (nums.map PyData.int)))] rfl]
  unfold b_law_number
  by_cases h0 : (nums.length : Int) = 0
  · refine ⟨none, a, Int.le_refl _, (fun x z => by cases z), ?_⟩
    simp (decide := true) only [evSs, evS, evE, evT, evEs, evAs, evO, evC, evR, evSc, evScN, srcN, slotC, R.ok_bind, R.exc_bind, R.bad_bind, R.ok_out, R.exc_out, R.bad_out, setS, cn_im, cn_own, cn_bor, cn_chg, cn_lst, cn_dct, cn_set, datR_im, datR_lst, tru_none, tru_bool, tru_int, tru_list, tru_tuple, trd_none, trd_bool, trd_int, trd_list, trd_tuple, len_list, len_tuple, len_dct, cv_int, cv_tup1, cv_tup2, cv_lst1, cv_lst2, slD_int, slD_tuple, slD_str, slD_list,
  isi_none, isi_bool, isi_int, isi_str, isi_tuple, isi_list, isTy, arg_im, arg_own, grd_true, get_0, get_s, var_eq, mov_eq, bor_eq, mut_eq, put_eq, fin_eq, lk_eq, un_eq, var_im, var_own, mov_im, mov_own, bor_im, bor_own, bor_bor, bor_chg, mut_own, mut_chg, put_own, put_chg, puts_nil, puts_cons, app_own, app_chg, isl_list, isd_dct, fin_nil, fin_im, fin_bor, fin_own, fin_chg, out_ret, out_nx, ob_nx, ob_ret, ob_brk, ob_cnt, ul_nx, ul_ret, bp_im, bp_own, bp_t, bps_nil, bps_cons, lk_nil, lk_im, lk_bor, lk_own, lk_chg, un_nil, un_own, un_chg, un_im, un_bor, nox_ok, if_true, if_false, Bool.false_eq_true, as_nil, as_e, as_bor, as_chg,
  As.muts, As.bors, Sc.locks, Rdo.locks, Pt.slots, Pt.slotss, wipeS, backS, bAdd, bSub, c_lt, c_le, c_gt, c_ge, c_eq, c_ne, c_eqs, augD, itemsE, itemsS, isN_none, isN_bool, isN_int, isN_str, isN_tuple, isN_list, opt_none, Bool.xor_false, Bool.false_xor, Bool.true_xor, Bool.xor_true,
  List.getElem?_cons_zero, List.getElem?_cons_succ, List.getElem?_nil, List.set_cons_zero, List.set_cons_succ, List.length_cons, List.length_nil, List.map_cons, List.map_nil, Bool.true_and, Bool.and_true, Bool.not_true, Bool.not_false, Bool.and_self, List.all_nil, List.all_cons, List.nodup_nil, List.nodup_cons, List.not_mem_nil, not_false_eq_true, and_true, List.contains_nil, List.contains_eq_mem, decide_true, decide_false, Option.getD_some, Option.getD_none, List.length_map, h0, optD]
  · obtain ⟨r1, q1, q2, d1⟩ := draw_ok (k := k) (l := l) (m := 5) ha (by omega)
    by_cases h1 : r1 = 0
    · refine ⟨none, a + 1, by omega, (fun x z => by cases z), ?_⟩
      simp (decide := true) only [evSs, evS, evE, evT, evEs, evAs, evO, evC, evR, evSc, evScN, srcN, slotC, R.ok_bind, R.exc_bind, R.bad_bind, R.ok_out, R.exc_out, R.bad_out, setS, cn_im, cn_own, cn_bor, cn_chg, cn_lst, cn_dct, cn_set, datR_im, datR_lst, tru_none, tru_bool, tru_int, tru_list, tru_tuple, trd_none, trd_bool, trd_int, trd_list, trd_tuple, len_list, len_tuple, len_dct, cv_int, cv_tup1, cv_tup2, cv_lst1, cv_lst2, slD_int, slD_tuple, slD_str, slD_list,
  isi_none, isi_bool, isi_int, isi_str, isi_tuple, isi_list, isTy, arg_im, arg_own, grd_true, get_0, get_s, var_eq, mov_eq, bor_eq, mut_eq, put_eq, fin_eq, lk_eq, un_eq, var_im, var_own, mov_im, mov_own, bor_im, bor_own, bor_bor, bor_chg, mut_own, mut_chg, put_own, put_chg, puts_nil, puts_cons, app_own, app_chg, isl_list, isd_dct, fin_nil, fin_im, fin_bor, fin_own, fin_chg, out_ret, out_nx, ob_nx, ob_ret, ob_brk, ob_cnt, ul_nx, ul_ret, bp_im, bp_own, bp_t, bps_nil, bps_cons, lk_nil, lk_im, lk_bor, lk_own, lk_chg, un_nil, un_own, un_chg, un_im, un_bor, nox_ok, if_true, if_false, Bool.false_eq_true, as_nil, as_e, as_bor, as_chg,
  As.muts, As.bors, Sc.locks, Rdo.locks, Pt.slots, Pt.slotss, wipeS, backS, bAdd, bSub, c_lt, c_le, c_gt, c_ge, c_eq, c_ne, c_eqs, augD, itemsE, itemsS, isN_none, isN_bool, isN_int, isN_str, isN_tuple, isN_list, opt_none, Bool.xor_false, Bool.false_xor, Bool.true_xor, Bool.xor_true,
  List.getElem?_cons_zero, List.getElem?_cons_succ, List.getElem?_nil, List.set_cons_zero, List.set_cons_succ, List.length_cons, List.length_nil, List.map_cons, List.map_nil, Bool.true_and, Bool.and_true, Bool.not_true, Bool.not_false, Bool.and_self, List.all_nil, List.all_cons, List.nodup_nil, List.nodup_cons, List.not_mem_nil, not_false_eq_true, and_true, List.contains_nil, List.contains_eq_mem, decide_true, decide_false, Option.getD_some, Option.getD_none, List.length_map, h0, optD, d1, h1]
    · obtain ⟨r2, q3, q4, d2⟩ := draw_ok (k := k) (l := l) (a := a + 1) (m := 1000) (by omega) (by omega)
      have hlen : (0 : Int) < nums.length := by omega
      obtain ⟨x, hx, hx2⟩ := ints_at (l := nums) (i := r2 % nums.length) (Int.emod_nonneg _ (by omega)) (Int.emod_lt_of_pos _ hlen)
      refine ⟨some x, a + 1 + 1, by omega, (fun y z => by cases z; exact hx), ?_⟩
      simp (decide := true) only [evSs, evS, evE, evT, evEs, evAs, evO, evC, evR, evSc, evScN, srcN, slotC, R.ok_bind, R.exc_bind, R.bad_bind, R.ok_out, R.exc_out, R.bad_out, setS, cn_im, cn_own, cn_bor, cn_chg, cn_lst, cn_dct, cn_set, datR_im, datR_lst, tru_none, tru_bool, tru_int, tru_list, tru_tuple, trd_none, trd_bool, trd_int, trd_list, trd_tuple, len_list, len_tuple, len_dct, cv_int, cv_tup1, cv_tup2, cv_lst1, cv_lst2, slD_int, slD_tuple, slD_str, slD_list,
  isi_none, isi_bool, isi_int, isi_str, isi_tuple, isi_list, isTy, arg_im, arg_own, grd_true, get_0, get_s, var_eq, mov_eq, bor_eq, mut_eq, put_eq, fin_eq, lk_eq, un_eq, var_im, var_own, mov_im, mov_own, bor_im, bor_own, bor_bor, bor_chg, mut_own, mut_chg, put_own, put_chg, puts_nil, puts_cons, app_own, app_chg, isl_list, isd_dct, fin_nil, fin_im, fin_bor, fin_own, fin_chg, out_ret, out_nx, ob_nx, ob_ret, ob_brk, ob_cnt, ul_nx, ul_ret, bp_im, bp_own, bp_t, bps_nil, bps_cons, lk_nil, lk_im, lk_bor, lk_own, lk_chg, un_nil, un_own, un_chg, un_im, un_bor, nox_ok, if_true, if_false, Bool.false_eq_true, as_nil, as_e, as_bor, as_chg,
  As.muts, As.bors, Sc.locks, Rdo.locks, Pt.slots, Pt.slotss, wipeS, backS, bAdd, bSub, c_lt, c_le, c_gt, c_ge, c_eq, c_ne, c_eqs, augD, itemsE, itemsS, isN_none, isN_bool, isN_int, isN_str, isN_tuple, isN_list, opt_none, Bool.xor_false, Bool.false_xor, Bool.true_xor, Bool.xor_true,
  List.getElem?_cons_zero, List.getElem?_cons_succ, List.getElem?_nil, List.set_cons_zero, List.set_cons_succ, List.length_cons, List.length_nil, List.map_cons, List.map_nil, Bool.true_and, Bool.and_true, Bool.not_true, Bool.not_false, Bool.and_self, List.all_nil, List.all_cons, List.nodup_nil, List.nodup_cons, List.not_mem_nil, not_false_eq_true, and_true, List.contains_nil, List.contains_eq_mem, decide_true, decide_false, Option.getD_some, Option.getD_none, List.length_map, h0, optD, d1, h1, d2, bMod hlen, idxL hx2]
theorem all2_opt {nums : List Int} : ∀ {xs ys : List D}, All2 (fun _ d => ∃ r : Option Int, (∀ x, r = some x → x ∈ nums) ∧ d = optD r) xs ys → ∃ rs : List (Option Int), (∀ x, some x ∈ rs → x ∈ nums) ∧ ys = rs.map optD
  | _, _, .nil => ⟨[], (fun x h => by cases h), rfl⟩
  | _, _, .cons ⟨r, h1, h2⟩ t => by
    obtain ⟨rs, h3, h4⟩ := all2_opt t
    refine ⟨r :: rs, fun x hx => ?_, by rw [h2, h4]; rfl⟩
    rcases List.mem_cons.mp hx with e | e
    · exact h1 x e.symm
    · exact h3 x e
def fstD : D → D
  | .tuple (k :: _) => k
  | d => d
theorem fst_ents (es : List (Int × Int)) : (((es.map entD).filter fun _ => true).map fstD) = (es.map (·.1)).map PyData.int := by
  rw [List.filter_eq_self.mpr (fun _ _ => rfl), List.map_map, List.map_map]
  rfl
theorem object_ok {k : Nat} {l nums : List Int} {a n : Int} (ha : 0 ≤ a) : ∃ (o : Ob) (a' : Int), a ≤ a' ∧ o.Ok nums ∧ o.num = n ∧ C (k + 3) i_law_object [.chg (boxC l a), .im (.int n), .bor (.lst (nums.map PyData.int))] = .ok (.im o.d, [boxC l a']) := by
  have key : ∀ ρ, startS db_law_object.fd [.chg (boxC l a), .im (.int n), .bor (.lst (nums.map PyData.int))] = ρ → C (k + 3) i_law_object [.chg (boxC l a), .im (.int n), .bor (.lst (nums.map PyData.int))] = outCall [.chg (boxC l a), .im (.int n), .bor (.lst (nums.map PyData.int))] (evSs (C (k + 2)) 200 b_law_object ρ) := fun ρ h => call_unf (d := db_law_object) rfl rfl ρ h
  rw [key [some (.chg (boxC l a)), some (.im (.int n)), some (.bor (.lst (nums.map PyData.int))), none, none, none, none, none, none] rfl]
  obtain ⟨r1, q1, q2, d1⟩ := draw_ok (k := k + 1) (l := l) (m := 7) ha (by omega)
  unfold b_law_object
  by_cases hrec : r1 < 3 ∨ (4 < r1 ∧ (nums.length : Int) = 0)
  · obtain ⟨r2, q3, q4, d2⟩ := draw_ok (k := k + 1) (l := l) (a := a + 1) (m := 4) (by omega) (by omega)
    obtain ⟨ys, ρ', h1, ⟨a', h2, h3⟩, h4⟩ := loopC_all (j := 5) (c := evC (C (k + 2)) .no) (f := fun ρ => datR (evE (C (k + 2)) e_law_object_2 ρ)) (own := [5]) (fun _ => evC_no)
      (fun ρ => ∃ a', a ≤ a' ∧ ρ = [some (.chg (boxC l a')), some (.im (.int n)), some (.bor (.lst (nums.map PyData.int))), some (.im (.int r1)), none, none, none, none, none])
      (fun _ d => ∃ r : Option Int, (∀ x, r = some x → x ∈ nums) ∧ d = optD r) (rangeD 0 r2.toNat) (fun x _ ρ ⟨a', h2, h3⟩ => by
        subst h3
        obtain ⟨r, a2, q5, q6, d3⟩ := number_ok (k := k) (l := l) (nums := nums) (a := a') (by omega)
        refine ⟨optD r, [some (.chg (boxC l a2)), some (.im (.int n)), some (.bor (.lst (nums.map PyData.int))), some (.im (.int r1)), none, some (.im x), none, none, none], ?_, ⟨a2, by omega, rfl⟩, r, q6, rfl⟩
        simp (decide := true) only [e_law_object_2, evSs, evS, evE, evT, evEs, evAs, evO, evC, evR, evSc, evScN, srcN, slotC, R.ok_bind, R.exc_bind, R.bad_bind, R.ok_out, R.exc_out, R.bad_out, setS, cn_im, cn_own, cn_bor, cn_chg, cn_lst, cn_dct, cn_set, datR_im, datR_lst, tru_none, tru_bool, tru_int, tru_list, tru_tuple, trd_none, trd_bool, trd_int, trd_list, trd_tuple, len_list, len_tuple, len_dct, cv_int, cv_tup1, cv_tup2, cv_lst1, cv_lst2, slD_int, slD_tuple, slD_str, slD_list,
  isi_none, isi_bool, isi_int, isi_str, isi_tuple, isi_list, isTy, arg_im, arg_own, grd_true, get_0, get_s, var_eq, mov_eq, bor_eq, mut_eq, put_eq, fin_eq, lk_eq, un_eq, var_im, var_own, mov_im, mov_own, bor_im, bor_own, bor_bor, bor_chg, mut_own, mut_chg, put_own, put_chg, puts_nil, puts_cons, app_own, app_chg, isl_list, isd_dct, fin_nil, fin_im, fin_bor, fin_own, fin_chg, out_ret, out_nx, ob_nx, ob_ret, ob_brk, ob_cnt, ul_nx, ul_ret, bp_im, bp_own, bp_t, bps_nil, bps_cons, lk_nil, lk_im, lk_bor, lk_own, lk_chg, un_nil, un_own, un_chg, un_im, un_bor, nox_ok, if_true, if_false, Bool.false_eq_true, as_nil, as_e, as_bor, as_chg,
  As.muts, As.bors, Sc.locks, Rdo.locks, Pt.slots, Pt.slotss, wipeS, backS, bAdd, bSub, c_lt, c_le, c_gt, c_ge, c_eq, c_ne, c_eqs, augD, itemsE, itemsS, isN_none, isN_bool, isN_int, isN_str, isN_tuple, isN_list, opt_none, Bool.xor_false, Bool.false_xor, Bool.true_xor, Bool.xor_true,
  List.getElem?_cons_zero, List.getElem?_cons_succ, List.getElem?_nil, List.set_cons_zero, List.set_cons_succ, List.length_cons, List.length_nil, List.map_cons, List.map_nil, Bool.true_and, Bool.and_true, Bool.not_true, Bool.not_false, Bool.and_self, List.all_nil, List.all_cons, List.nodup_nil, List.nodup_cons, List.not_mem_nil, not_false_eq_true, and_true, List.contains_nil, List.contains_eq_mem, decide_true, decide_false, Option.getD_some, Option.getD_none, d3]) [some (.chg (boxC l (a + 1 + 1))), some (.im (.int n)), some (.bor (.lst (nums.map PyData.int))), some (.im (.int r1)), none, none, none, none, none] ⟨a + 1 + 1, by omega, rfl⟩
    obtain ⟨rs, h5, h6⟩ := all2_opt h4
    subst h3
    have hl : ys.length ≤ lineN := by
      rw [h4.length, rangeD_length]; unfold lineN; omega
    have hr2 : range62 r2 = true := r62_int (by omega) (by omega)
    have hlr : rs.length ≤ 1000 := by have := h4.length; rw [h6, List.length_map, rangeD_length] at this; omega
    refine ⟨.recd n rs, a', h2, ⟨h5, hlr⟩, rfl, ?_⟩
    show _ = R.ok (Sl.im (.tuple [.str "record", .int n, .tuple (rs.map optD)]), _)
    rw [← h6]
    rcases hrec with hrec | ⟨hr, hz⟩
    · simp (decide := true) only [evSs, evS, evE, evT, evEs, evAs, evO, evC, evR, evSc, evScN, srcN, slotC, R.ok_bind, R.exc_bind, R.bad_bind, R.ok_out, R.exc_out, R.bad_out, setS, cn_im, cn_own, cn_bor, cn_chg, cn_lst, cn_dct, cn_set, datR_im, datR_lst, tru_none, tru_bool, tru_int, tru_list, tru_tuple, trd_none, trd_bool, trd_int, trd_list, trd_tuple, len_list, len_tuple, len_dct, cv_int, cv_tup1, cv_tup2, cv_lst1, cv_lst2, slD_int, slD_tuple, slD_str, slD_list,
  isi_none, isi_bool, isi_int, isi_str, isi_tuple, isi_list, isTy, arg_im, arg_own, grd_true, get_0, get_s, var_eq, mov_eq, bor_eq, mut_eq, put_eq, fin_eq, lk_eq, un_eq, var_im, var_own, mov_im, mov_own, bor_im, bor_own, bor_bor, bor_chg, mut_own, mut_chg, put_own, put_chg, puts_nil, puts_cons, app_own, app_chg, isl_list, isd_dct, fin_nil, fin_im, fin_bor, fin_own, fin_chg, out_ret, out_nx, ob_nx, ob_ret, ob_brk, ob_cnt, ul_nx, ul_ret, bp_im, bp_own, bp_t, bps_nil, bps_cons, lk_nil, lk_im, lk_bor, lk_own, lk_chg, un_nil, un_own, un_chg, un_im, un_bor, nox_ok, if_true, if_false, Bool.false_eq_true, as_nil, as_e, as_bor, as_chg,
  As.muts, As.bors, Sc.locks, Rdo.locks, Pt.slots, Pt.slotss, wipeS, backS, bAdd, bSub, c_lt, c_le, c_gt, c_ge, c_eq, c_ne, c_eqs, augD, itemsE, itemsS, isN_none, isN_bool, isN_int, isN_str, isN_tuple, isN_list, opt_none, Bool.xor_false, Bool.false_xor, Bool.true_xor, Bool.xor_true,
  List.getElem?_cons_zero, List.getElem?_cons_succ, List.getElem?_nil, List.set_cons_zero, List.set_cons_succ, List.length_cons, List.length_nil, List.map_cons, List.map_nil, Bool.true_and, Bool.and_true, Bool.not_true, Bool.not_false, Bool.and_self, List.all_nil, List.all_cons, List.nodup_nil, List.nodup_cons, List.not_mem_nil, not_false_eq_true, and_true, List.contains_nil, List.contains_eq_mem, decide_true, decide_false, Option.getD_some, Option.getD_none, d1, d2, hrec, hr2, h1, hl]
    · have hn : ¬ r1 < 3 := by omega
      simp (decide := true) only [evSs, evS, evE, evT, evEs, evAs, evO, evC, evR, evSc, evScN, srcN, slotC, R.ok_bind, R.exc_bind, R.bad_bind, R.ok_out, R.exc_out, R.bad_out, setS, cn_im, cn_own, cn_bor, cn_chg, cn_lst, cn_dct, cn_set, datR_im, datR_lst, tru_none, tru_bool, tru_int, tru_list, tru_tuple, trd_none, trd_bool, trd_int, trd_list, trd_tuple, len_list, len_tuple, len_dct, cv_int, cv_tup1, cv_tup2, cv_lst1, cv_lst2, slD_int, slD_tuple, slD_str, slD_list,
  isi_none, isi_bool, isi_int, isi_str, isi_tuple, isi_list, isTy, arg_im, arg_own, grd_true, get_0, get_s, var_eq, mov_eq, bor_eq, mut_eq, put_eq, fin_eq, lk_eq, un_eq, var_im, var_own, mov_im, mov_own, bor_im, bor_own, bor_bor, bor_chg, mut_own, mut_chg, put_own, put_chg, puts_nil, puts_cons, app_own, app_chg, isl_list, isd_dct, fin_nil, fin_im, fin_bor, fin_own, fin_chg, out_ret, out_nx, ob_nx, ob_ret, ob_brk, ob_cnt, ul_nx, ul_ret, bp_im, bp_own, bp_t, bps_nil, bps_cons, lk_nil, lk_im, lk_bor, lk_own, lk_chg, un_nil, un_own, un_chg, un_im, un_bor, nox_ok, if_true, if_false, Bool.false_eq_true, as_nil, as_e, as_bor, as_chg,
  As.muts, As.bors, Sc.locks, Rdo.locks, Pt.slots, Pt.slotss, wipeS, backS, bAdd, bSub, c_lt, c_le, c_gt, c_ge, c_eq, c_ne, c_eqs, augD, itemsE, itemsS, isN_none, isN_bool, isN_int, isN_str, isN_tuple, isN_list, opt_none, Bool.xor_false, Bool.false_xor, Bool.true_xor, Bool.xor_true,
  List.getElem?_cons_zero, List.getElem?_cons_succ, List.getElem?_nil, List.set_cons_zero, List.set_cons_succ, List.length_cons, List.length_nil, List.map_cons, List.map_nil, Bool.true_and, Bool.and_true, Bool.not_true, Bool.not_false, Bool.and_self, List.all_nil, List.all_cons, List.nodup_nil, List.nodup_cons, List.not_mem_nil, not_false_eq_true, and_true, List.contains_nil, List.contains_eq_mem, decide_true, decide_false, Option.getD_some, Option.getD_none, d1, d2, hn, hr, hz, List.length_map, hr2, h1, hl]
  · have hn3 : ¬ r1 < 3 := fun h => hrec (.inl h)
    by_cases h5 : r1 < 5
    · have h4 : ¬ 4 < r1 := by omega
      obtain ⟨r, a2, q5, q6, d3⟩ := number_ok (k := k) (l := l) (nums := nums) (a := a + 1) (by omega)
      refine ⟨.weak n r, a2, by omega, q6, rfl, ?_⟩
      show _ = R.ok (Sl.im (.tuple [.str "weak", .int n, optD r]), _)
      simp (decide := true) only [evSs, evS, evE, evT, evEs, evAs, evO, evC, evR, evSc, evScN, srcN, slotC, R.ok_bind, R.exc_bind, R.bad_bind, R.ok_out, R.exc_out, R.bad_out, setS, cn_im, cn_own, cn_bor, cn_chg, cn_lst, cn_dct, cn_set, datR_im, datR_lst, tru_none, tru_bool, tru_int, tru_list, tru_tuple, trd_none, trd_bool, trd_int, trd_list, trd_tuple, len_list, len_tuple, len_dct, cv_int, cv_tup1, cv_tup2, cv_lst1, cv_lst2, slD_int, slD_tuple, slD_str, slD_list,
  isi_none, isi_bool, isi_int, isi_str, isi_tuple, isi_list, isTy, arg_im, arg_own, grd_true, get_0, get_s, var_eq, mov_eq, bor_eq, mut_eq, put_eq, fin_eq, lk_eq, un_eq, var_im, var_own, mov_im, mov_own, bor_im, bor_own, bor_bor, bor_chg, mut_own, mut_chg, put_own, put_chg, puts_nil, puts_cons, app_own, app_chg, isl_list, isd_dct, fin_nil, fin_im, fin_bor, fin_own, fin_chg, out_ret, out_nx, ob_nx, ob_ret, ob_brk, ob_cnt, ul_nx, ul_ret, bp_im, bp_own, bp_t, bps_nil, bps_cons, lk_nil, lk_im, lk_bor, lk_own, lk_chg, un_nil, un_own, un_chg, un_im, un_bor, nox_ok, if_true, if_false, Bool.false_eq_true, as_nil, as_e, as_bor, as_chg,
  As.muts, As.bors, Sc.locks, Rdo.locks, Pt.slots, Pt.slotss, wipeS, backS, bAdd, bSub, c_lt, c_le, c_gt, c_ge, c_eq, c_ne, c_eqs, augD, itemsE, itemsS, isN_none, isN_bool, isN_int, isN_str, isN_tuple, isN_list, opt_none, Bool.xor_false, Bool.false_xor, Bool.true_xor, Bool.xor_true,
  List.getElem?_cons_zero, List.getElem?_cons_succ, List.getElem?_nil, List.set_cons_zero, List.set_cons_succ, List.length_cons, List.length_nil, List.map_cons, List.map_nil, Bool.true_and, Bool.and_true, Bool.not_true, Bool.not_false, Bool.and_self, List.all_nil, List.all_cons, List.nodup_nil, List.nodup_cons, List.not_mem_nil, not_false_eq_true, and_true, List.contains_nil, List.contains_eq_mem, decide_true, decide_false, Option.getD_some, Option.getD_none, d1, hn3, h4, h5, d3]
    · have h4 : 4 < r1 := by omega
      have hz : ¬ (nums.length : Int) = 0 := fun h => hrec (.inr ⟨h4, h⟩)
      have hlen : (0 : Int) < nums.length := by omega
      obtain ⟨r2, q3, q4, d2⟩ := draw_ok (k := k + 1) (l := l) (a := a + 1) (m := 4) (by omega) (by omega)
      have hr2 : range62 r2 = true := r62_int (by omega) (by omega)
      obtain ⟨ρ', h1, es, a', x5, x6, x7, h2, h3, h6, h7, h8⟩ := loopF_r (j := 5) (lo := 0) (n := r2.toNat) (b := evSs (C (k + 2)) 200 b_law_object_1)
        (fun i ρ => ∃ (es : List (Int × Int)) (a' : Int) (x5 x6 x7 : Option Sl), ρ = [some (.chg (boxC l a')), some (.im (.int n)), some (.bor (.lst (nums.map PyData.int))), some (.im (.int r1)), some (.own (.lst (es.map entD))), x5, x6, x7, none] ∧ a ≤ a' ∧ (∀ e ∈ es, e.1 ∈ nums ∧ e.2 ∈ nums) ∧ (es.map (·.1)).Nodup ∧ es.length ≤ i)
        (fun i ρ hi ⟨es, a', x5, x6, x7, h2, h3, h6, h7, h8⟩ => by
          subst h2
          obtain ⟨r3, q5, q6, d3⟩ := draw_ok (k := k + 1) (l := l) (a := a') (m := 1000) (by omega) (by omega)
          obtain ⟨r4, q7, q8, d4⟩ := draw_ok (k := k + 1) (l := l) (a := a' + 1) (m := 1000) (by omega) (by omega)
          obtain ⟨x, hx, hx2⟩ := ints_at (l := nums) (i := r3 % nums.length) (Int.emod_nonneg _ (by omega)) (Int.emod_lt_of_pos _ hlen)
          obtain ⟨y, hy, hy2⟩ := ints_at (l := nums) (i := r4 % nums.length) (Int.emod_nonneg _ (by omega)) (Int.emod_lt_of_pos _ hlen)
          have hll : es.length ≤ lineN := by unfold lineN; omega
          have hl2 : (es.map entD).length < lineN := by simp; unfold lineN; omega
          have lp := loopC_pure (j := 8) (c := evC (C (k + 2)) .no) (f := fun ρ => datR (evE (C (k + 2)) e_law_object_0 ρ)) (ρ := [some (.chg (boxC l (a' + 1 + 1))), some (.im (.int n)), some (.bor (.lst (nums.map PyData.int))), some (.im (.int r1)), some (.bor (.lst (es.map entD))), some (.im (.int (0 + i))), some (.im (.int x)), some (.im (.int y)), none]) (fun _ => true) fstD (es.map entD)
            (fun z hz => ⟨evC_no, fun _ => by
              obtain ⟨e, he, rfl⟩ := List.mem_map.mp hz
              have e0 : idxD (.dat (entD e)) (.int 0) = .ok (.int e.1) := rfl
              simp only [e_law_object_0, evSs, evS, evE, evT, evEs, evAs, evO, evC, evR, evSc, evScN, srcN, slotC, R.ok_bind, R.exc_bind, R.bad_bind, R.ok_out, R.exc_out, R.bad_out, setS, cn_im, cn_own, cn_bor, cn_chg, cn_lst, cn_dct, cn_set, datR_im, datR_lst, tru_none, tru_bool, tru_int, tru_list, tru_tuple, trd_none, trd_bool, trd_int, trd_list, trd_tuple, len_list, len_tuple, len_dct, cv_int, cv_tup1, cv_tup2, cv_lst1, cv_lst2, slD_int, slD_tuple, slD_str, slD_list,
  isi_none, isi_bool, isi_int, isi_str, isi_tuple, isi_list, isTy, arg_im, arg_own, grd_true, get_0, get_s, var_eq, mov_eq, bor_eq, mut_eq, put_eq, fin_eq, lk_eq, un_eq, var_im, var_own, mov_im, mov_own, bor_im, bor_own, bor_bor, bor_chg, mut_own, mut_chg, put_own, put_chg, puts_nil, puts_cons, app_own, app_chg, isl_list, isd_dct, fin_nil, fin_im, fin_bor, fin_own, fin_chg, out_ret, out_nx, ob_nx, ob_ret, ob_brk, ob_cnt, ul_nx, ul_ret, bp_im, bp_own, bp_t, bps_nil, bps_cons, lk_nil, lk_im, lk_bor, lk_own, lk_chg, un_nil, un_own, un_chg, un_im, un_bor, nox_ok, if_true, if_false, Bool.false_eq_true, as_nil, as_e, as_bor, as_chg,
  As.muts, As.bors, Sc.locks, Rdo.locks, Pt.slots, Pt.slotss, wipeS, backS, bAdd, bSub, c_lt, c_le, c_gt, c_ge, c_eq, c_ne, c_eqs, augD, itemsE, itemsS, isN_none, isN_bool, isN_int, isN_str, isN_tuple, isN_list, opt_none, Bool.xor_false, Bool.false_xor, Bool.true_xor, Bool.xor_true,
  List.getElem?_cons_zero, List.getElem?_cons_succ, List.getElem?_nil, List.set_cons_zero, List.set_cons_succ, List.length_cons, List.length_nil, List.map_cons, List.map_nil, Bool.true_and, Bool.and_true, Bool.not_true, Bool.not_false, Bool.and_self, List.all_nil, List.all_cons, List.nodup_nil, List.nodup_cons, List.not_mem_nil, not_false_eq_true, and_true, List.contains_nil, List.contains_eq_mem, decide_true, decide_false, Option.getD_some, Option.getD_none, e0]
              rfl⟩) rfl
          rw [fst_ents] at lp
          by_cases hm : x ∈ es.map (·.1)
          · refine ⟨[some (.chg (boxC l (a' + 1 + 1))), some (.im (.int n)), some (.bor (.lst (nums.map PyData.int))), some (.im (.int r1)), some (.own (.lst (es.map entD))), some (.im (.int (0 + i))), some (.im (.int x)), some (.im (.int y)), none], ?_, es, a' + 1 + 1, _, _, _, rfl, by omega, h6, h7, by omega⟩
            simp (decide := true) only [b_law_object_1, evSs, evS, evE, evT, evEs, evAs, evO, evC, evR, evSc, evScN, srcN, slotC, R.ok_bind, R.exc_bind, R.bad_bind, R.ok_out, R.exc_out, R.bad_out, setS, cn_im, cn_own, cn_bor, cn_chg, cn_lst, cn_dct, cn_set, datR_im, datR_lst, tru_none, tru_bool, tru_int, tru_list, tru_tuple, trd_none, trd_bool, trd_int, trd_list, trd_tuple, len_list, len_tuple, len_dct, cv_int, cv_tup1, cv_tup2, cv_lst1, cv_lst2, slD_int, slD_tuple, slD_str, slD_list,
  isi_none, isi_bool, isi_int, isi_str, isi_tuple, isi_list, isTy, arg_im, arg_own, grd_true, get_0, get_s, var_eq, mov_eq, bor_eq, mut_eq, put_eq, fin_eq, lk_eq, un_eq, var_im, var_own, mov_im, mov_own, bor_im, bor_own, bor_bor, bor_chg, mut_own, mut_chg, put_own, put_chg, puts_nil, puts_cons, app_own, app_chg, isl_list, isd_dct, fin_nil, fin_im, fin_bor, fin_own, fin_chg, out_ret, out_nx, ob_nx, ob_ret, ob_brk, ob_cnt, ul_nx, ul_ret, bp_im, bp_own, bp_t, bps_nil, bps_cons, lk_nil, lk_im, lk_bor, lk_own, lk_chg, un_nil, un_own, un_chg, un_im, un_bor, nox_ok, if_true, if_false, Bool.false_eq_true, as_nil, as_e, as_bor, as_chg,
  As.muts, As.bors, Sc.locks, Rdo.locks, Pt.slots, Pt.slotss, wipeS, backS, bAdd, bSub, c_lt, c_le, c_gt, c_ge, c_eq, c_ne, c_eqs, augD, itemsE, itemsS, isN_none, isN_bool, isN_int, isN_str, isN_tuple, isN_list, opt_none, Bool.xor_false, Bool.false_xor, Bool.true_xor, Bool.xor_true,
  List.getElem?_cons_zero, List.getElem?_cons_succ, List.getElem?_nil, List.set_cons_zero, List.set_cons_succ, List.length_cons, List.length_nil, List.map_cons, List.map_nil, Bool.true_and, Bool.and_true, Bool.not_true, Bool.not_false, Bool.and_self, List.all_nil, List.all_cons, List.nodup_nil, List.nodup_cons, List.not_mem_nil, not_false_eq_true, and_true, List.contains_nil, List.contains_eq_mem, decide_true, decide_false, Option.getD_some, Option.getD_none, d3, d4, List.length_map, bMod hlen, idxL hx2, idxL hy2, lp, hll, mem_intsL, hm]
          · refine ⟨[some (.chg (boxC l (a' + 1 + 1))), some (.im (.int n)), some (.bor (.lst (nums.map PyData.int))), some (.im (.int r1)), some (.own (.lst ((es ++ [(x, y)]).map entD))), some (.im (.int (0 + i))), some (.im (.int x)), some (.im (.int y)), none], ?_, es ++ [(x, y)], a' + 1 + 1, _, _, _, rfl, by omega, fun e he => ?_, ?_, by rw [List.length_append, List.length_singleton]; omega⟩
            · simp (decide := true) only [b_law_object_1, evSs, evS, evE, evT, evEs, evAs, evO, evC, evR, evSc, evScN, srcN, slotC, R.ok_bind, R.exc_bind, R.bad_bind, R.ok_out, R.exc_out, R.bad_out, setS, cn_im, cn_own, cn_bor, cn_chg, cn_lst, cn_dct, cn_set, datR_im, datR_lst, tru_none, tru_bool, tru_int, tru_list, tru_tuple, trd_none, trd_bool, trd_int, trd_list, trd_tuple, len_list, len_tuple, len_dct, cv_int, cv_tup1, cv_tup2, cv_lst1, cv_lst2, slD_int, slD_tuple, slD_str, slD_list,
  isi_none, isi_bool, isi_int, isi_str, isi_tuple, isi_list, isTy, arg_im, arg_own, grd_true, get_0, get_s, var_eq, mov_eq, bor_eq, mut_eq, put_eq, fin_eq, lk_eq, un_eq, var_im, var_own, mov_im, mov_own, bor_im, bor_own, bor_bor, bor_chg, mut_own, mut_chg, put_own, put_chg, puts_nil, puts_cons, app_own, app_chg, isl_list, isd_dct, fin_nil, fin_im, fin_bor, fin_own, fin_chg, out_ret, out_nx, ob_nx, ob_ret, ob_brk, ob_cnt, ul_nx, ul_ret, bp_im, bp_own, bp_t, bps_nil, bps_cons, lk_nil, lk_im, lk_bor, lk_own, lk_chg, un_nil, un_own, un_chg, un_im, un_bor, nox_ok, if_true, if_false, Bool.false_eq_true, as_nil, as_e, as_bor, as_chg,
  As.muts, As.bors, Sc.locks, Rdo.locks, Pt.slots, Pt.slotss, wipeS, backS, bAdd, bSub, c_lt, c_le, c_gt, c_ge, c_eq, c_ne, c_eqs, augD, itemsE, itemsS, isN_none, isN_bool, isN_int, isN_str, isN_tuple, isN_list, opt_none, Bool.xor_false, Bool.false_xor, Bool.true_xor, Bool.xor_true,
  List.getElem?_cons_zero, List.getElem?_cons_succ, List.getElem?_nil, List.set_cons_zero, List.set_cons_succ, List.length_cons, List.length_nil, List.map_cons, List.map_nil, Bool.true_and, Bool.and_true, Bool.not_true, Bool.not_false, Bool.and_self, List.all_nil, List.all_cons, List.nodup_nil, List.nodup_cons, List.not_mem_nil, not_false_eq_true, and_true, List.contains_nil, List.contains_eq_mem, decide_true, decide_false, Option.getD_some, Option.getD_none, d3, d4, List.length_map, bMod hlen, idxL hx2, idxL hy2, lp, hll, mem_intsL, hm, app_own hl2]
              simp [entD]
            · rcases List.mem_append.mp he with he | he
              · exact h6 e he
              · rw [List.mem_singleton.mp he]; exact ⟨hx, hy⟩
            · rw [List.map_append, List.nodup_append]
              refine ⟨h7, by simp, fun u hu v hv z => hm ?_⟩
              simp at hv
              rw [← hv, ← z]; exact hu)
        [some (.chg (boxC l (a + 1 + 1))), some (.im (.int n)), some (.bor (.lst (nums.map PyData.int))), some (.im (.int r1)), some (.own (.lst [])), none, none, none, none] ⟨[], a + 1 + 1, none, none, none, rfl, by omega, (fun e he => by cases he), List.nodup_nil, Nat.zero_le _⟩
      subst h2
      refine ⟨.tab n es, a', h3, ⟨h6, h7, by omega⟩, rfl, ?_⟩
      show _ = R.ok (Sl.im (.tuple [.str "table", .int n, .tuple (es.map entD)]), _)
      have hne : ¬ ((nums.length : Int) = 0) := by omega
      simp (decide := true) only [evSs, evS, evE, evT, evEs, evAs, evO, evC, evR, evSc, evScN, srcN, slotC, R.ok_bind, R.exc_bind, R.bad_bind, R.ok_out, R.exc_out, R.bad_out, setS, cn_im, cn_own, cn_bor, cn_chg, cn_lst, cn_dct, cn_set, datR_im, datR_lst, tru_none, tru_bool, tru_int, tru_list, tru_tuple, trd_none, trd_bool, trd_int, trd_list, trd_tuple, len_list, len_tuple, len_dct, cv_int, cv_tup1, cv_tup2, cv_lst1, cv_lst2, slD_int, slD_tuple, slD_str, slD_list,
  isi_none, isi_bool, isi_int, isi_str, isi_tuple, isi_list, isTy, arg_im, arg_own, grd_true, get_0, get_s, var_eq, mov_eq, bor_eq, mut_eq, put_eq, fin_eq, lk_eq, un_eq, var_im, var_own, mov_im, mov_own, bor_im, bor_own, bor_bor, bor_chg, mut_own, mut_chg, put_own, put_chg, puts_nil, puts_cons, app_own, app_chg, isl_list, isd_dct, fin_nil, fin_im, fin_bor, fin_own, fin_chg, out_ret, out_nx, ob_nx, ob_ret, ob_brk, ob_cnt, ul_nx, ul_ret, bp_im, bp_own, bp_t, bps_nil, bps_cons, lk_nil, lk_im, lk_bor, lk_own, lk_chg, un_nil, un_own, un_chg, un_im, un_bor, nox_ok, if_true, if_false, Bool.false_eq_true, as_nil, as_e, as_bor, as_chg,
  As.muts, As.bors, Sc.locks, Rdo.locks, Pt.slots, Pt.slotss, wipeS, backS, bAdd, bSub, c_lt, c_le, c_gt, c_ge, c_eq, c_ne, c_eqs, augD, itemsE, itemsS, isN_none, isN_bool, isN_int, isN_str, isN_tuple, isN_list, opt_none, Bool.xor_false, Bool.false_xor, Bool.true_xor, Bool.xor_true,
  List.getElem?_cons_zero, List.getElem?_cons_succ, List.getElem?_nil, List.set_cons_zero, List.set_cons_succ, List.length_cons, List.length_nil, List.map_cons, List.map_nil, Bool.true_and, Bool.and_true, Bool.not_true, Bool.not_false, Bool.and_self, List.all_nil, List.all_cons, List.nodup_nil, List.nodup_cons, List.not_mem_nil, not_false_eq_true, and_true, List.contains_nil, List.contains_eq_mem, decide_true, decide_false, Option.getD_some, Option.getD_none, d1, hn3, h4, h5, hne, List.length_map, d2, hr2, h1]
end K23

set_option Elab.async false
set_option linter.all false
set_option maxRecDepth 100000
set_option maxHeartbeats 0
namespace K23
open PySem PySem.Spec L2 Wk
/-- drawn objects -/
theorem all2_ob {nums : List Int} : ∀ {xs : List Int} {ys : List D}, All2 (fun x d => ∃ o : Ob, x = .int o.num ∧ o.Ok nums ∧ d = o.d) (xs.map PyData.int) ys → ∃ os : List Ob, os.map Ob.num = xs ∧ (∀ o ∈ os, o.Ok nums) ∧ ys = os.map Ob.d
  | [], _, .nil => ⟨[], rfl, (fun o h => by cases h), rfl⟩
  | x :: xs, _, .cons ⟨o, e, h1, h2⟩ t => by
    cases e
    obtain ⟨os, h3, h4, h5⟩ := all2_ob t
    refine ⟨o :: os, by rw [List.map_cons, h3], fun p hp => ?_, by rw [h2, h5]; rfl⟩
    rcases List.mem_cons.mp hp with rfl | hp
    · exact h1
    · exact h4 p hp
theorem all2_eq : ∀ {xs ys : List D}, All2 (fun x o => o = x) xs ys → ys = xs
  | _, _, .nil => rfl
  | _, _, .cons h t => by rw [h, all2_eq t]
theorem list_at4 {r : Int} (h0 : 0 ≤ r) (h4 : r < 4) : ∃ g : Int, 0 ≤ g ∧ g ≤ 2 ∧ idxD (.dat (.list [.int 0, .int 0, .int 0, .int 2])) (.int r) = .ok (.int g) := by
  have : r = 0 ∨ r = 1 ∨ r = 2 ∨ r = 3 := by omega
  rcases this with rfl | rfl | rfl | rfl
  · exact ⟨0, by omega, by omega, rfl⟩
  · exact ⟨0, by omega, by omega, rfl⟩
  · exact ⟨0, by omega, by omega, rfl⟩
  · exact ⟨2, by omega, by omega, rfl⟩
/-- the numbers -/
theorem nums_ok {k : Nat} {l : List Int} {a most many : Int} (ha : 0 ≤ a) (hm0 : 0 ≤ many) (hm : many ≤ 1000) : ∃ (ρ' : Sv) (nums : List Int) (a' nx : Int) (x5 : Option Sl), loopF (.v 5) (evSs (C (k + 1)) 200 b_law_heap_5) (rangeD 0 many.toNat) [some (.chg (boxC l a)), some (.im (.int most)), some (.im (.int many)), some (.own (.lst [])), some (.im (.int 0)), none, none, none, none, none, none] = .nx ρ' ∧
    ρ' = [some (.chg (boxC l a')), some (.im (.int most)), some (.im (.int many)), some (.own (.lst (nums.map PyData.int))), some (.im (.int nx)), x5, none, none, none, none, none] ∧ a ≤ a' ∧ nums.Pairwise (· < ·) ∧ nums.length ≤ many.toNat ∧ (∀ y ∈ nums, 0 ≤ y) ∧ (∀ y ∈ nums, y < nx) := by
  obtain ⟨ρ', h1, nums, a', nx, x5, h2, h3, h4, h5, h6, h7, h8⟩ := loopF_r (j := 5) (lo := 0) (n := many.toNat) (b := evSs (C (k + 1)) 200 b_law_heap_5)
    (fun i ρ => ∃ (nums : List Int) (a' nx : Int) (x5 : Option Sl), ρ = [some (.chg (boxC l a')), some (.im (.int most)), some (.im (.int many)), some (.own (.lst (nums.map PyData.int))), some (.im (.int nx)), x5, none, none, none, none, none] ∧ a ≤ a' ∧ nums.Pairwise (· < ·) ∧ (∀ y ∈ nums, y < nx) ∧ nums.length ≤ i ∧ (∀ y ∈ nums, 0 ≤ y) ∧ 0 ≤ nx)
    (fun i ρ hi ⟨nums, a', nx, x5, h2, h3, h4, h5, h6, h7, h8⟩ => by
      subst h2
      obtain ⟨r, q1, q2, d1⟩ := draw_ok (k := k) (l := l) (a := a') (m := 4) (by omega) (by omega)
      obtain ⟨g, g1, g2, e4⟩ := list_at4 q1 q2
      have hl2 : (nums.map PyData.int).length < lineN := by simp; unfold lineN; omega
      refine ⟨[some (.chg (boxC l (a' + 1))), some (.im (.int most)), some (.im (.int many)), some (.own (.lst ((nums ++ [nx + g]).map PyData.int))), some (.im (.int (nx + g + 1))), some (.im (.int (0 + i))), none, none, none, none, none], ?_, nums ++ [nx + g], a' + 1, nx + g + 1, _, rfl, by omega, ?_, ?_, by rw [List.length_append, List.length_singleton]; omega, ?_, by omega⟩
      · simp (decide := true) only [b_law_heap_5, evSs, evS, evE, evT, evEs, evAs, evO, evC, evR, evSc, evScN, srcN, slotC, R.ok_bind, R.exc_bind, R.bad_bind, R.ok_out, R.exc_out, R.bad_out, setS, cn_im, cn_own, cn_bor, cn_chg, cn_lst, cn_dct, cn_set, datR_im, datR_lst, tru_none, tru_bool, tru_int, tru_list, tru_tuple, trd_none, trd_bool, trd_int, trd_list, trd_tuple, len_list, len_tuple, len_dct, cv_int, cv_tup1, cv_tup2, cv_lst1, cv_lst2, slD_int, slD_tuple, slD_str, slD_list,
  isi_none, isi_bool, isi_int, isi_str, isi_tuple, isi_list, isTy, arg_im, arg_own, grd_true, get_0, get_s, var_eq, mov_eq, bor_eq, mut_eq, put_eq, fin_eq, lk_eq, un_eq, var_im, var_own, mov_im, mov_own, bor_im, bor_own, bor_bor, bor_chg, mut_own, mut_chg, put_own, put_chg, puts_nil, puts_cons, app_own, app_chg, isl_list, isd_dct, fin_nil, fin_im, fin_bor, fin_own, fin_chg, out_ret, out_nx, ob_nx, ob_ret, ob_brk, ob_cnt, ul_nx, ul_ret, bp_im, bp_own, bp_t, bps_nil, bps_cons, lk_nil, lk_im, lk_bor, lk_own, lk_chg, un_nil, un_own, un_chg, un_im, un_bor, nox_ok, if_true, if_false, Bool.false_eq_true, as_nil, as_e, as_bor, as_chg,
  As.muts, As.bors, Sc.locks, Rdo.locks, Pt.slots, Pt.slotss, wipeS, backS, bAdd, bSub, c_lt, c_le, c_gt, c_ge, c_eq, c_ne, c_eqs, augD, itemsE, itemsS, isN_none, isN_bool, isN_int, isN_str, isN_tuple, isN_list, opt_none, Bool.xor_false, Bool.false_xor, Bool.true_xor, Bool.xor_true,
  List.getElem?_cons_zero, List.getElem?_cons_succ, List.getElem?_nil, List.set_cons_zero, List.set_cons_succ, List.length_cons, List.length_nil, List.map_cons, List.map_nil, Bool.true_and, Bool.and_true, Bool.not_true, Bool.not_false, Bool.and_self, List.all_nil, List.all_cons, List.nodup_nil, List.nodup_cons, List.not_mem_nil, not_false_eq_true, and_true, List.contains_nil, List.contains_eq_mem, decide_true, decide_false, Option.getD_some, Option.getD_none, d1, e4, app_own hl2]
        simp
      · rw [List.pairwise_append]
        refine ⟨h4, List.pairwise_singleton .., fun u hu v hv => ?_⟩
        rw [List.mem_singleton.mp hv]
        have := h5 u hu
        omega
      · intro y hy
        rcases List.mem_append.mp hy with hy | hy
        · have := h5 y hy; omega
        · rw [List.mem_singleton.mp hy]; omega
      · intro y hy
        rcases List.mem_append.mp hy with hy | hy
        · exact h7 y hy
        · rw [List.mem_singleton.mp hy]; omega)
    _ ⟨[], a, 0, none, rfl, by omega, List.Pairwise.nil, (fun y hy => by cases hy), Nat.zero_le _, (fun y hy => by cases hy), by omega⟩
  exact ⟨ρ', nums, a', nx, x5, h1, h2, h3, h4, h6, h7, h5⟩
theorem objs_ok {k : Nat} {l nums : List Int} {a most many nx : Int} {x5 : Option Sl} (ha : 0 ≤ a) : ∃ (ys : List D) (a' : Int), loopC (.v 10) (evC (C (k + 3)) .no) (fun ρ => datR (evE (C (k + 3)) e_law_heap_4 ρ)) [10] (nums.map PyData.int) [some (.chg (boxC l a)), some (.im (.int most)), some (.im (.int many)), some (.bor (.lst (nums.map PyData.int))), some (.im (.int nx)), x5, none, none, none, none, none] =
      .ok (ys, [some (.chg (boxC l a')), some (.im (.int most)), some (.im (.int many)), some (.bor (.lst (nums.map PyData.int))), some (.im (.int nx)), x5, none, none, none, none, none]) ∧ a ≤ a' ∧ All2 (fun x d => ∃ o : Ob, x = .int o.num ∧ o.Ok nums ∧ d = o.d) (nums.map PyData.int) ys := by
  obtain ⟨ys, ρ', h1, ⟨a', h2, h3⟩, h4⟩ := loopC_all (j := 10) (c := evC (C (k + 3)) .no) (f := fun ρ => datR (evE (C (k + 3)) e_law_heap_4 ρ)) (own := [10]) (fun _ => evC_no)
    (fun ρ => ∃ a', a ≤ a' ∧ ρ = [some (.chg (boxC l a')), some (.im (.int most)), some (.im (.int many)), some (.bor (.lst (nums.map PyData.int))), some (.im (.int nx)), x5, none, none, none, none, none])
    (fun x d => ∃ o : Ob, x = .int o.num ∧ o.Ok nums ∧ d = o.d) (nums.map PyData.int) (fun x hx ρ ⟨a', h2, h3⟩ => by
      subst h3
      obtain ⟨n, hn, rfl⟩ := List.mem_map.mp hx
      obtain ⟨o, a2, q1, q2, q3, d3⟩ := object_ok (k := k) (l := l) (nums := nums) (a := a') (n := n) (by omega)
      refine ⟨o.d, [some (.chg (boxC l a2)), some (.im (.int most)), some (.im (.int many)), some (.bor (.lst (nums.map PyData.int))), some (.im (.int nx)), x5, none, none, none, none, some (.im (.int n))], ?_, ⟨a2, by omega, rfl⟩, o, by rw [q3], q2, rfl⟩
      simp (decide := true) only [e_law_heap_4, evSs, evS, evE, evT, evEs, evAs, evO, evC, evR, evSc, evScN, srcN, slotC, R.ok_bind, R.exc_bind, R.bad_bind, R.ok_out, R.exc_out, R.bad_out, setS, cn_im, cn_own, cn_bor, cn_chg, cn_lst, cn_dct, cn_set, datR_im, datR_lst, tru_none, tru_bool, tru_int, tru_list, tru_tuple, trd_none, trd_bool, trd_int, trd_list, trd_tuple, len_list, len_tuple, len_dct, cv_int, cv_tup1, cv_tup2, cv_lst1, cv_lst2, slD_int, slD_tuple, slD_str, slD_list,
  isi_none, isi_bool, isi_int, isi_str, isi_tuple, isi_list, isTy, arg_im, arg_own, grd_true, get_0, get_s, var_eq, mov_eq, bor_eq, mut_eq, put_eq, fin_eq, lk_eq, un_eq, var_im, var_own, mov_im, mov_own, bor_im, bor_own, bor_bor, bor_chg, mut_own, mut_chg, put_own, put_chg, puts_nil, puts_cons, app_own, app_chg, isl_list, isd_dct, fin_nil, fin_im, fin_bor, fin_own, fin_chg, out_ret, out_nx, ob_nx, ob_ret, ob_brk, ob_cnt, ul_nx, ul_ret, bp_im, bp_own, bp_t, bps_nil, bps_cons, lk_nil, lk_im, lk_bor, lk_own, lk_chg, un_nil, un_own, un_chg, un_im, un_bor, nox_ok, if_true, if_false, Bool.false_eq_true, as_nil, as_e, as_bor, as_chg,
  As.muts, As.bors, Sc.locks, Rdo.locks, Pt.slots, Pt.slotss, wipeS, backS, bAdd, bSub, c_lt, c_le, c_gt, c_ge, c_eq, c_ne, c_eqs, augD, itemsE, itemsS, isN_none, isN_bool, isN_int, isN_str, isN_tuple, isN_list, opt_none, Bool.xor_false, Bool.false_xor, Bool.true_xor, Bool.xor_true,
  List.getElem?_cons_zero, List.getElem?_cons_succ, List.getElem?_nil, List.set_cons_zero, List.set_cons_succ, List.length_cons, List.length_nil, List.map_cons, List.map_nil, Bool.true_and, Bool.and_true, Bool.not_true, Bool.not_false, Bool.and_self, List.all_nil, List.all_cons, List.nodup_nil, List.nodup_cons, List.not_mem_nil, not_false_eq_true, and_true, List.contains_nil, List.contains_eq_mem, decide_true, decide_false, Option.getD_some, Option.getD_none, d3]) _ ⟨a, Int.le_refl _, rfl⟩
  subst h3
  exact ⟨ys, a', h1, h2, h4⟩
theorem regs_ok {k : Nat} {l nums : List Int} {a most many nx : Int} {x6 : Option Sl} {m : Nat} (ha : 0 ≤ a) : ∃ (rs : List (Option Int)) (a' : Int), loopC (.v 5) (evC (C (k + 2)) .no) (fun ρ => datR (evE (C (k + 2)) e_law_heap_3 ρ)) [5] (rangeD 0 m) [some (.chg (boxC l a)), some (.im (.int most)), some (.im (.int many)), some (.own (.lst (nums.map PyData.int))), some (.im (.int nx)), none, x6, none, none, none, none] =
      .ok (rs.map optD, [some (.chg (boxC l a')), some (.im (.int most)), some (.im (.int many)), some (.own (.lst (nums.map PyData.int))), some (.im (.int nx)), none, x6, none, none, none, none]) ∧ a ≤ a' ∧ (∀ x, some x ∈ rs → x ∈ nums) ∧ rs.length = m := by
  obtain ⟨ys, ρ', h1, ⟨a', h2, h3⟩, h4⟩ := loopC_all (j := 5) (c := evC (C (k + 2)) .no) (f := fun ρ => datR (evE (C (k + 2)) e_law_heap_3 ρ)) (own := [5]) (fun _ => evC_no)
    (fun ρ => ∃ a', a ≤ a' ∧ ρ = [some (.chg (boxC l a')), some (.im (.int most)), some (.im (.int many)), some (.own (.lst (nums.map PyData.int))), some (.im (.int nx)), none, x6, none, none, none, none])
    (fun _ d => ∃ r : Option Int, (∀ x, r = some x → x ∈ nums) ∧ d = optD r) (rangeD 0 m) (fun x hx ρ ⟨a', h2, h3⟩ => by
      subst h3
      obtain ⟨r, a2, q5, q6, d3⟩ := number_ok (k := k) (l := l) (nums := nums) (a := a') (by omega)
      refine ⟨optD r, [some (.chg (boxC l a2)), some (.im (.int most)), some (.im (.int many)), some (.own (.lst (nums.map PyData.int))), some (.im (.int nx)), some (.im x), x6, none, none, none, none], ?_, ⟨a2, by omega, rfl⟩, r, q6, rfl⟩
      simp (decide := true) only [e_law_heap_3, evSs, evS, evE, evT, evEs, evAs, evO, evC, evR, evSc, evScN, srcN, slotC, R.ok_bind, R.exc_bind, R.bad_bind, R.ok_out, R.exc_out, R.bad_out, setS, cn_im, cn_own, cn_bor, cn_chg, cn_lst, cn_dct, cn_set, datR_im, datR_lst, tru_none, tru_bool, tru_int, tru_list, tru_tuple, trd_none, trd_bool, trd_int, trd_list, trd_tuple, len_list, len_tuple, len_dct, cv_int, cv_tup1, cv_tup2, cv_lst1, cv_lst2, slD_int, slD_tuple, slD_str, slD_list,
  isi_none, isi_bool, isi_int, isi_str, isi_tuple, isi_list, isTy, arg_im, arg_own, grd_true, get_0, get_s, var_eq, mov_eq, bor_eq, mut_eq, put_eq, fin_eq, lk_eq, un_eq, var_im, var_own, mov_im, mov_own, bor_im, bor_own, bor_bor, bor_chg, mut_own, mut_chg, put_own, put_chg, puts_nil, puts_cons, app_own, app_chg, isl_list, isd_dct, fin_nil, fin_im, fin_bor, fin_own, fin_chg, out_ret, out_nx, ob_nx, ob_ret, ob_brk, ob_cnt, ul_nx, ul_ret, bp_im, bp_own, bp_t, bps_nil, bps_cons, lk_nil, lk_im, lk_bor, lk_own, lk_chg, un_nil, un_own, un_chg, un_im, un_bor, nox_ok, if_true, if_false, Bool.false_eq_true, as_nil, as_e, as_bor, as_chg,
  As.muts, As.bors, Sc.locks, Rdo.locks, Pt.slots, Pt.slotss, wipeS, backS, bAdd, bSub, c_lt, c_le, c_gt, c_ge, c_eq, c_ne, c_eqs, augD, itemsE, itemsS, isN_none, isN_bool, isN_int, isN_str, isN_tuple, isN_list, opt_none, Bool.xor_false, Bool.false_xor, Bool.true_xor, Bool.xor_true,
  List.getElem?_cons_zero, List.getElem?_cons_succ, List.getElem?_nil, List.set_cons_zero, List.set_cons_succ, List.length_cons, List.length_nil, List.map_cons, List.map_nil, Bool.true_and, Bool.and_true, Bool.not_true, Bool.not_false, Bool.and_self, List.all_nil, List.all_cons, List.nodup_nil, List.nodup_cons, List.not_mem_nil, not_false_eq_true, and_true, List.contains_nil, List.contains_eq_mem, decide_true, decide_false, Option.getD_some, Option.getD_none, d3]) _ ⟨a, Int.le_refl _, rfl⟩
  subst h3
  obtain ⟨rs, h5, h6⟩ := all2_opt h4
  have hl := h4.length
  rw [h6, List.length_map, rangeD_length] at hl
  rw [h6] at h1
  exact ⟨rs, a', h1, h2, h5, hl⟩
theorem kept_ok {k : Nat} {l nums : List Int} {a most many nx : Int} {x5 x6 x7 : Option Sl} (ha : 0 ≤ a) : ∃ (ys : List Int) (a' : Int), loopC (.v 10) (evC (C (k + 1)) c_law_heap_2) (fun ρ => datR (evE (C (k + 1)) e_law_heap_1 ρ)) [10] (nums.map PyData.int) [some (.chg (boxC l a)), some (.im (.int most)), some (.im (.int many)), some (.bor (.lst (nums.map PyData.int))), some (.im (.int nx)), x5, x6, x7, none, none, none] =
      .ok (ys.map PyData.int, [some (.chg (boxC l a')), some (.im (.int most)), some (.im (.int many)), some (.bor (.lst (nums.map PyData.int))), some (.im (.int nx)), x5, x6, x7, none, none, none]) ∧ a ≤ a' ∧ ys.Sublist nums := by
  obtain ⟨ys, xs', ρ', h1, ⟨a', h2, h3⟩, h4, h5⟩ := loopC_sel (j := 10) (c := evC (C (k + 1)) c_law_heap_2) (f := fun ρ => datR (evE (C (k + 1)) e_law_heap_1 ρ)) (own := [10])
    (fun ρ => ∃ a', a ≤ a' ∧ ρ = [some (.chg (boxC l a')), some (.im (.int most)), some (.im (.int many)), some (.bor (.lst (nums.map PyData.int))), some (.im (.int nx)), x5, x6, x7, none, none, none])
    (fun x o => o = x) (nums.map PyData.int) (fun x hx ρ ⟨a', h2, h3⟩ => by
      subst h3
      obtain ⟨n, hn, rfl⟩ := List.mem_map.mp hx
      obtain ⟨r, q1, q2, d1⟩ := draw_ok (k := k) (l := l) (a := a') (m := 6) (by omega) (by omega)
      by_cases hr : r = 0
      · refine .inl ⟨[some (.chg (boxC l (a' + 1))), some (.im (.int most)), some (.im (.int many)), some (.bor (.lst (nums.map PyData.int))), some (.im (.int nx)), x5, x6, x7, none, none, some (.im (.int n))], .int n, [some (.chg (boxC l (a' + 1))), some (.im (.int most)), some (.im (.int many)), some (.bor (.lst (nums.map PyData.int))), some (.im (.int nx)), x5, x6, x7, none, none, some (.im (.int n))], ?_, ?_, ⟨a' + 1, by omega, rfl⟩, rfl⟩
        · simp (decide := true) only [c_law_heap_2, evSs, evS, evE, evT, evEs, evAs, evO, evC, evR, evSc, evScN, srcN, slotC, R.ok_bind, R.exc_bind, R.bad_bind, R.ok_out, R.exc_out, R.bad_out, setS, cn_im, cn_own, cn_bor, cn_chg, cn_lst, cn_dct, cn_set, datR_im, datR_lst, tru_none, tru_bool, tru_int, tru_list, tru_tuple, trd_none, trd_bool, trd_int, trd_list, trd_tuple, len_list, len_tuple, len_dct, cv_int, cv_tup1, cv_tup2, cv_lst1, cv_lst2, slD_int, slD_tuple, slD_str, slD_list,
  isi_none, isi_bool, isi_int, isi_str, isi_tuple, isi_list, isTy, arg_im, arg_own, grd_true, get_0, get_s, var_eq, mov_eq, bor_eq, mut_eq, put_eq, fin_eq, lk_eq, un_eq, var_im, var_own, mov_im, mov_own, bor_im, bor_own, bor_bor, bor_chg, mut_own, mut_chg, put_own, put_chg, puts_nil, puts_cons, app_own, app_chg, isl_list, isd_dct, fin_nil, fin_im, fin_bor, fin_own, fin_chg, out_ret, out_nx, ob_nx, ob_ret, ob_brk, ob_cnt, ul_nx, ul_ret, bp_im, bp_own, bp_t, bps_nil, bps_cons, lk_nil, lk_im, lk_bor, lk_own, lk_chg, un_nil, un_own, un_chg, un_im, un_bor, nox_ok, if_true, if_false, Bool.false_eq_true, as_nil, as_e, as_bor, as_chg,
  As.muts, As.bors, Sc.locks, Rdo.locks, Pt.slots, Pt.slotss, wipeS, backS, bAdd, bSub, c_lt, c_le, c_gt, c_ge, c_eq, c_ne, c_eqs, augD, itemsE, itemsS, isN_none, isN_bool, isN_int, isN_str, isN_tuple, isN_list, opt_none, Bool.xor_false, Bool.false_xor, Bool.true_xor, Bool.xor_true,
  List.getElem?_cons_zero, List.getElem?_cons_succ, List.getElem?_nil, List.set_cons_zero, List.set_cons_succ, List.length_cons, List.length_nil, List.map_cons, List.map_nil, Bool.true_and, Bool.and_true, Bool.not_true, Bool.not_false, Bool.and_self, List.all_nil, List.all_cons, List.nodup_nil, List.nodup_cons, List.not_mem_nil, not_false_eq_true, and_true, List.contains_nil, List.contains_eq_mem, decide_true, decide_false, Option.getD_some, Option.getD_none, d1, hr]
        · simp (decide := true) only [e_law_heap_1, evSs, evS, evE, evT, evEs, evAs, evO, evC, evR, evSc, evScN, srcN, slotC, R.ok_bind, R.exc_bind, R.bad_bind, R.ok_out, R.exc_out, R.bad_out, setS, cn_im, cn_own, cn_bor, cn_chg, cn_lst, cn_dct, cn_set, datR_im, datR_lst, tru_none, tru_bool, tru_int, tru_list, tru_tuple, trd_none, trd_bool, trd_int, trd_list, trd_tuple, len_list, len_tuple, len_dct, cv_int, cv_tup1, cv_tup2, cv_lst1, cv_lst2, slD_int, slD_tuple, slD_str, slD_list,
  isi_none, isi_bool, isi_int, isi_str, isi_tuple, isi_list, isTy, arg_im, arg_own, grd_true, get_0, get_s, var_eq, mov_eq, bor_eq, mut_eq, put_eq, fin_eq, lk_eq, un_eq, var_im, var_own, mov_im, mov_own, bor_im, bor_own, bor_bor, bor_chg, mut_own, mut_chg, put_own, put_chg, puts_nil, puts_cons, app_own, app_chg, isl_list, isd_dct, fin_nil, fin_im, fin_bor, fin_own, fin_chg, out_ret, out_nx, ob_nx, ob_ret, ob_brk, ob_cnt, ul_nx, ul_ret, bp_im, bp_own, bp_t, bps_nil, bps_cons, lk_nil, lk_im, lk_bor, lk_own, lk_chg, un_nil, un_own, un_chg, un_im, un_bor, nox_ok, if_true, if_false, Bool.false_eq_true, as_nil, as_e, as_bor, as_chg,
  As.muts, As.bors, Sc.locks, Rdo.locks, Pt.slots, Pt.slotss, wipeS, backS, bAdd, bSub, c_lt, c_le, c_gt, c_ge, c_eq, c_ne, c_eqs, augD, itemsE, itemsS, isN_none, isN_bool, isN_int, isN_str, isN_tuple, isN_list, opt_none, Bool.xor_false, Bool.false_xor, Bool.true_xor, Bool.xor_true,
  List.getElem?_cons_zero, List.getElem?_cons_succ, List.getElem?_nil, List.set_cons_zero, List.set_cons_succ, List.length_cons, List.length_nil, List.map_cons, List.map_nil, Bool.true_and, Bool.and_true, Bool.not_true, Bool.not_false, Bool.and_self, List.all_nil, List.all_cons, List.nodup_nil, List.nodup_cons, List.not_mem_nil, not_false_eq_true, and_true, List.contains_nil, List.contains_eq_mem, decide_true, decide_false, Option.getD_some, Option.getD_none]
      · refine .inr ⟨[some (.chg (boxC l (a' + 1))), some (.im (.int most)), some (.im (.int many)), some (.bor (.lst (nums.map PyData.int))), some (.im (.int nx)), x5, x6, x7, none, none, some (.im (.int n))], ?_, ⟨a' + 1, by omega, rfl⟩⟩
        simp (decide := true) only [c_law_heap_2, evSs, evS, evE, evT, evEs, evAs, evO, evC, evR, evSc, evScN, srcN, slotC, R.ok_bind, R.exc_bind, R.bad_bind, R.ok_out, R.exc_out, R.bad_out, setS, cn_im, cn_own, cn_bor, cn_chg, cn_lst, cn_dct, cn_set, datR_im, datR_lst, tru_none, tru_bool, tru_int, tru_list, tru_tuple, trd_none, trd_bool, trd_int, trd_list, trd_tuple, len_list, len_tuple, len_dct, cv_int, cv_tup1, cv_tup2, cv_lst1, cv_lst2, slD_int, slD_tuple, slD_str, slD_list,
  isi_none, isi_bool, isi_int, isi_str, isi_tuple, isi_list, isTy, arg_im, arg_own, grd_true, get_0, get_s, var_eq, mov_eq, bor_eq, mut_eq, put_eq, fin_eq, lk_eq, un_eq, var_im, var_own, mov_im, mov_own, bor_im, bor_own, bor_bor, bor_chg, mut_own, mut_chg, put_own, put_chg, puts_nil, puts_cons, app_own, app_chg, isl_list, isd_dct, fin_nil, fin_im, fin_bor, fin_own, fin_chg, out_ret, out_nx, ob_nx, ob_ret, ob_brk, ob_cnt, ul_nx, ul_ret, bp_im, bp_own, bp_t, bps_nil, bps_cons, lk_nil, lk_im, lk_bor, lk_own, lk_chg, un_nil, un_own, un_chg, un_im, un_bor, nox_ok, if_true, if_false, Bool.false_eq_true, as_nil, as_e, as_bor, as_chg,
  As.muts, As.bors, Sc.locks, Rdo.locks, Pt.slots, Pt.slotss, wipeS, backS, bAdd, bSub, c_lt, c_le, c_gt, c_ge, c_eq, c_ne, c_eqs, augD, itemsE, itemsS, isN_none, isN_bool, isN_int, isN_str, isN_tuple, isN_list, opt_none, Bool.xor_false, Bool.false_xor, Bool.true_xor, Bool.xor_true,
  List.getElem?_cons_zero, List.getElem?_cons_succ, List.getElem?_nil, List.set_cons_zero, List.set_cons_succ, List.length_cons, List.length_nil, List.map_cons, List.map_nil, Bool.true_and, Bool.and_true, Bool.not_true, Bool.not_false, Bool.and_self, List.all_nil, List.all_cons, List.nodup_nil, List.nodup_cons, List.not_mem_nil, not_false_eq_true, and_true, List.contains_nil, List.contains_eq_mem, decide_true, decide_false, Option.getD_some, Option.getD_none, d1, hr]) _ ⟨a, Int.le_refl _, rfl⟩
  subst h3
  have e := all2_eq h5
  subst e
  obtain ⟨zs, hg, rfl⟩ := List.sublist_map_iff.mp h4
  exact ⟨zs, a', h1, h2, hg⟩
theorem watch_ok {k : Nat} {l nums : List Int} {a most many nx : Int} {x5 x6 x7 x8 : Option Sl} (ha : 0 ≤ a) (hn : nums.length ≤ 1000) : ∃ (ρ' : Sv) (ws : List (Int × Int)) (a' : Int) (x10 : Option Sl), loopF (.v 10) (evSs (C (k + 1)) 200 b_law_heap_0) (nums.map PyData.int) [some (.chg (boxC l a)), some (.im (.int most)), some (.im (.int many)), some (.bor (.lst (nums.map PyData.int))), some (.im (.int nx)), x5, x6, x7, x8, some (.own (.lst [])), none] = .nx ρ' ∧
    ρ' = [some (.chg (boxC l a')), some (.im (.int most)), some (.im (.int many)), some (.bor (.lst (nums.map PyData.int))), some (.im (.int nx)), x5, x6, x7, x8, some (.own (.lst (ws.map entD))), x10] ∧ a ≤ a' ∧ ws.length ≤ nums.length ∧ (∀ p ∈ ws, p.1 ∈ nums ∧ 7 ≤ p.2 ∧ p.2 ≤ 8) := by
  obtain ⟨ρ', h1, ws, a', x10, h2, h3, h4, h5⟩ := loopF_v (j := 10) (b := evSs (C (k + 1)) 200 b_law_heap_0)
    (fun i ρ => ∃ (ws : List (Int × Int)) (a' : Int) (x10 : Option Sl), ρ = [some (.chg (boxC l a')), some (.im (.int most)), some (.im (.int many)), some (.bor (.lst (nums.map PyData.int))), some (.im (.int nx)), x5, x6, x7, x8, some (.own (.lst (ws.map entD))), x10] ∧ a ≤ a' ∧ ws.length ≤ i ∧ (∀ p ∈ ws, p.1 ∈ nums ∧ 7 ≤ p.2 ∧ p.2 ≤ 8)) (nums.map PyData.int)
    (fun i x ρ hx ⟨ws, a', x10, h2, h3, h4, h5⟩ => by
      subst h2
      obtain ⟨n, hn2, rfl⟩ := List.mem_map.mp (List.mem_of_getElem? hx)
      have hi : i < nums.length := by simpa using (List.getElem?_eq_some_iff.mp hx).1
      have hl2 : (ws.map entD).length < lineN := by rw [List.length_map]; unfold lineN; omega
      obtain ⟨r, q1, q2, d1⟩ := draw_ok (k := k) (l := l) (a := a') (m := 3) (by omega) (by omega)
      by_cases hr : r = 0
      · obtain ⟨r2, q3, q4, d2⟩ := draw_ok (k := k) (l := l) (a := a' + 1) (m := 2) (by omega) (by omega)
        refine ⟨[some (.chg (boxC l (a' + 1 + 1))), some (.im (.int most)), some (.im (.int many)), some (.bor (.lst (nums.map PyData.int))), some (.im (.int nx)), x5, x6, x7, x8, some (.own (.lst ((ws ++ [(n, 7 + r2)]).map entD))), some (.im (.int n))], ?_, ws ++ [(n, 7 + r2)], a' + 1 + 1, _, rfl, by omega, by rw [List.length_append, List.length_singleton]; omega, fun p hp => ?_⟩
        · simp (decide := true) only [b_law_heap_0, evSs, evS, evE, evT, evEs, evAs, evO, evC, evR, evSc, evScN, srcN, slotC, R.ok_bind, R.exc_bind, R.bad_bind, R.ok_out, R.exc_out, R.bad_out, setS, cn_im, cn_own, cn_bor, cn_chg, cn_lst, cn_dct, cn_set, datR_im, datR_lst, tru_none, tru_bool, tru_int, tru_list, tru_tuple, trd_none, trd_bool, trd_int, trd_list, trd_tuple, len_list, len_tuple, len_dct, cv_int, cv_tup1, cv_tup2, cv_lst1, cv_lst2, slD_int, slD_tuple, slD_str, slD_list,
  isi_none, isi_bool, isi_int, isi_str, isi_tuple, isi_list, isTy, arg_im, arg_own, grd_true, get_0, get_s, var_eq, mov_eq, bor_eq, mut_eq, put_eq, fin_eq, lk_eq, un_eq, var_im, var_own, mov_im, mov_own, bor_im, bor_own, bor_bor, bor_chg, mut_own, mut_chg, put_own, put_chg, puts_nil, puts_cons, app_own, app_chg, isl_list, isd_dct, fin_nil, fin_im, fin_bor, fin_own, fin_chg, out_ret, out_nx, ob_nx, ob_ret, ob_brk, ob_cnt, ul_nx, ul_ret, bp_im, bp_own, bp_t, bps_nil, bps_cons, lk_nil, lk_im, lk_bor, lk_own, lk_chg, un_nil, un_own, un_chg, un_im, un_bor, nox_ok, if_true, if_false, Bool.false_eq_true, as_nil, as_e, as_bor, as_chg,
  As.muts, As.bors, Sc.locks, Rdo.locks, Pt.slots, Pt.slotss, wipeS, backS, bAdd, bSub, c_lt, c_le, c_gt, c_ge, c_eq, c_ne, c_eqs, augD, itemsE, itemsS, isN_none, isN_bool, isN_int, isN_str, isN_tuple, isN_list, opt_none, Bool.xor_false, Bool.false_xor, Bool.true_xor, Bool.xor_true,
  List.getElem?_cons_zero, List.getElem?_cons_succ, List.getElem?_nil, List.set_cons_zero, List.set_cons_succ, List.length_cons, List.length_nil, List.map_cons, List.map_nil, Bool.true_and, Bool.and_true, Bool.not_true, Bool.not_false, Bool.and_self, List.all_nil, List.all_cons, List.nodup_nil, List.nodup_cons, List.not_mem_nil, not_false_eq_true, and_true, List.contains_nil, List.contains_eq_mem, decide_true, decide_false, Option.getD_some, Option.getD_none, d1, hr, d2, app_own hl2]
          simp [entD]
        · rcases List.mem_append.mp hp with hp | hp
          · exact h5 p hp
          · rw [List.mem_singleton.mp hp]; exact ⟨hn2, by show 7 ≤ 7 + r2; omega, by show 7 + r2 ≤ 8; omega⟩
      · refine ⟨[some (.chg (boxC l (a' + 1))), some (.im (.int most)), some (.im (.int many)), some (.bor (.lst (nums.map PyData.int))), some (.im (.int nx)), x5, x6, x7, x8, some (.own (.lst (ws.map entD))), some (.im (.int n))], ?_, ws, a' + 1, _, rfl, by omega, by omega, h5⟩
        simp (decide := true) only [b_law_heap_0, evSs, evS, evE, evT, evEs, evAs, evO, evC, evR, evSc, evScN, srcN, slotC, R.ok_bind, R.exc_bind, R.bad_bind, R.ok_out, R.exc_out, R.bad_out, setS, cn_im, cn_own, cn_bor, cn_chg, cn_lst, cn_dct, cn_set, datR_im, datR_lst, tru_none, tru_bool, tru_int, tru_list, tru_tuple, trd_none, trd_bool, trd_int, trd_list, trd_tuple, len_list, len_tuple, len_dct, cv_int, cv_tup1, cv_tup2, cv_lst1, cv_lst2, slD_int, slD_tuple, slD_str, slD_list,
  isi_none, isi_bool, isi_int, isi_str, isi_tuple, isi_list, isTy, arg_im, arg_own, grd_true, get_0, get_s, var_eq, mov_eq, bor_eq, mut_eq, put_eq, fin_eq, lk_eq, un_eq, var_im, var_own, mov_im, mov_own, bor_im, bor_own, bor_bor, bor_chg, mut_own, mut_chg, put_own, put_chg, puts_nil, puts_cons, app_own, app_chg, isl_list, isd_dct, fin_nil, fin_im, fin_bor, fin_own, fin_chg, out_ret, out_nx, ob_nx, ob_ret, ob_brk, ob_cnt, ul_nx, ul_ret, bp_im, bp_own, bp_t, bps_nil, bps_cons, lk_nil, lk_im, lk_bor, lk_own, lk_chg, un_nil, un_own, un_chg, un_im, un_bor, nox_ok, if_true, if_false, Bool.false_eq_true, as_nil, as_e, as_bor, as_chg,
  As.muts, As.bors, Sc.locks, Rdo.locks, Pt.slots, Pt.slotss, wipeS, backS, bAdd, bSub, c_lt, c_le, c_gt, c_ge, c_eq, c_ne, c_eqs, augD, itemsE, itemsS, isN_none, isN_bool, isN_int, isN_str, isN_tuple, isN_list, opt_none, Bool.xor_false, Bool.false_xor, Bool.true_xor, Bool.xor_true,
  List.getElem?_cons_zero, List.getElem?_cons_succ, List.getElem?_nil, List.set_cons_zero, List.set_cons_succ, List.length_cons, List.length_nil, List.map_cons, List.map_nil, Bool.true_and, Bool.and_true, Bool.not_true, Bool.not_false, Bool.and_self, List.all_nil, List.all_cons, List.nodup_nil, List.nodup_cons, List.not_mem_nil, not_false_eq_true, and_true, List.contains_nil, List.contains_eq_mem, decide_true, decide_false, Option.getD_some, Option.getD_none, d1, hr]) _ ⟨[], a, none, rfl, Int.le_refl _, Nat.zero_le _, (fun p hp => by cases hp)⟩
  exact ⟨ρ', ws, a', x10, h1, h2, h3, by simpa using h4, h5⟩
theorem heap_ok {k : Nat} {l : List Int} {a most : Int} (ha : 0 ≤ a) (hm0 : 0 ≤ most) (hm : most ≤ 100) : ∃ (h : Hx) (a' : Int), a ≤ a' ∧ h.Ok ∧ h.nums.length ≤ most.toNat ∧ 1 ≤ h.regs.length ∧ h.regs.length ≤ 3 ∧ (∀ p ∈ h.wat, 7 ≤ p.2 ∧ p.2 ≤ 8) ∧ C (k + 4) i_law_heap [.chg (boxC l a), .im (.int most)] = .ok (.im h.d, [boxC l a']) := by
  have key : ∀ ρ, startS db_law_heap.fd [.chg (boxC l a), .im (.int most)] = ρ → C (k + 4) i_law_heap [.chg (boxC l a), .im (.int most)] = outCall [.chg (boxC l a), .im (.int most)] (evSs (C (k + 3)) 200 b_law_heap ρ) := fun ρ h => call_unf (d := db_law_heap) rfl rfl ρ h
  rw [key [some (.chg (boxC l a)), some (.im (.int most)), none, none, none, none, none, none, none, none, none] rfl]
  obtain ⟨many, q1, q2, d1⟩ := draw_ok (k := k + 2) (l := l) (m := most + 1) ha (by omega)
  obtain ⟨ρ1, nums, a1, nx, x5, h1, h2, h3, h4, h5, h4p, h4n⟩ := nums_ok (k := k + 2) (l := l) (a := a + 1) (most := most) (by omega) q1 (by omega : many ≤ 1000)
  subst h2
  obtain ⟨ods, a2, h6, h7, h8⟩ := objs_ok (k := k) (l := l) (nums := nums) (a := a1) (most := most) (many := many) (nx := nx) (x5 := x5) (by omega)
  obtain ⟨objs, o1, o2, rfl⟩ := all2_ob h8
  obtain ⟨r3, q3, q4, d3⟩ := draw_ok (k := k + 2) (l := l) (a := a2) (m := 3) (by omega) (by omega)
  obtain ⟨regs, a3, h9, h10, h11, h12⟩ := regs_ok (k := k + 1) (l := l) (nums := nums) (a := a2 + 1) (most := most) (many := many) (nx := nx) (x6 := some (.im (.tuple (objs.map Ob.d)))) (m := (1 + r3).toNat) (by omega)
  obtain ⟨kept, a4, h13, h14, h15⟩ := kept_ok (k := k + 2) (l := l) (nums := nums) (a := a3) (most := most) (many := many) (nx := nx) (x5 := x5) (x6 := some (.im (.tuple (objs.map Ob.d)))) (x7 := some (.im (.tuple (regs.map optD)))) (by omega)
  have hnl : nums.length ≤ 1000 := by omega
  obtain ⟨ρ2, ws, a5, x10, h16, h17, h18, h19, h20⟩ := watch_ok (k := k + 2) (l := l) (nums := nums) (a := a4) (most := most) (many := many) (nx := nx) (x5 := x5) (x6 := some (.im (.tuple (objs.map Ob.d)))) (x7 := some (.im (.tuple (regs.map optD)))) (x8 := some (.im (intsT kept))) (by omega) hnl
  subst h17
  obtain ⟨r6, q5, q6, d6⟩ := draw_ok (k := k + 2) (l := l) (a := a5) (m := 2) (by omega) (by omega)
  have en : (Hx.mk (nx + r6) regs kept objs ws).nums = nums := o1
  refine ⟨⟨nx + r6, regs, kept, objs, ws⟩, a5 + 1, by omega, ⟨by rw [en]; exact h4, by rw [en]; exact o2, by rw [en]; exact h11, by rw [en]; exact h15, by rw [en]; exact fun p hp => (h20 p hp).1, by rw [en]; exact h4p, by rw [en]; intro x hx; have := h4n x hx; show x < nx + r6; omega, by rw [en]; omega, by show regs.length ≤ 1000; omega, by show ws.length ≤ 1000; omega⟩, by rw [en]; omega, by show 1 ≤ regs.length; omega, by show regs.length ≤ 3; omega, fun p hp => (h20 p hp).2, ?_⟩
  show _ = R.ok (Sl.im (.tuple [.str "heap", .int (nx + r6), .tuple (regs.map optD), intsT kept, .tuple (objs.map Ob.d), .tuple (ws.map entD)]), _)
  have r1 : range62 many = true := r62_int (by omega) (by omega)
  have r2 : range62 (1 + r3) = true := r62_int (by omega) (by omega)
  have l1 : (objs.map Ob.d).length ≤ lineN := by rw [h8.length]; simp; unfold lineN; omega
  have l2 : regs.length ≤ lineN := by unfold lineN; omega
  have l3 : kept.length ≤ lineN := by have := h15.length_le; unfold lineN; omega
  rw [List.length_map] at l1
  unfold intsT at h16 ⊢
  unfold b_law_heap
  simp (decide := true) only [evSs, evS, evE, evT, evEs, evAs, evO, evC, evR, evSc, evScN, srcN, slotC, R.ok_bind, R.exc_bind, R.bad_bind, R.ok_out, R.exc_out, R.bad_out, setS, cn_im, cn_own, cn_bor, cn_chg, cn_lst, cn_dct, cn_set, datR_im, datR_lst, tru_none, tru_bool, tru_int, tru_list, tru_tuple, trd_none, trd_bool, trd_int, trd_list, trd_tuple, len_list, len_tuple, len_dct, cv_int, cv_tup1, cv_tup2, cv_lst1, cv_lst2, slD_int, slD_tuple, slD_str, slD_list,
  isi_none, isi_bool, isi_int, isi_str, isi_tuple, isi_list, isTy, arg_im, arg_own, grd_true, get_0, get_s, var_eq, mov_eq, bor_eq, mut_eq, put_eq, fin_eq, lk_eq, un_eq, var_im, var_own, mov_im, mov_own, bor_im, bor_own, bor_bor, bor_chg, mut_own, mut_chg, put_own, put_chg, puts_nil, puts_cons, app_own, app_chg, isl_list, isd_dct, fin_nil, fin_im, fin_bor, fin_own, fin_chg, out_ret, out_nx, ob_nx, ob_ret, ob_brk, ob_cnt, ul_nx, ul_ret, bp_im, bp_own, bp_t, bps_nil, bps_cons, lk_nil, lk_im, lk_bor, lk_own, lk_chg, un_nil, un_own, un_chg, un_im, un_bor, nox_ok, if_true, if_false, Bool.false_eq_true, as_nil, as_e, as_bor, as_chg,
  As.muts, As.bors, Sc.locks, Rdo.locks, Pt.slots, Pt.slotss, wipeS, backS, bAdd, bSub, c_lt, c_le, c_gt, c_ge, c_eq, c_ne, c_eqs, augD, itemsE, itemsS, isN_none, isN_bool, isN_int, isN_str, isN_tuple, isN_list, opt_none, Bool.xor_false, Bool.false_xor, Bool.true_xor, Bool.xor_true,
  List.getElem?_cons_zero, List.getElem?_cons_succ, List.getElem?_nil, List.set_cons_zero, List.set_cons_succ, List.length_cons, List.length_nil, List.map_cons, List.map_nil, Bool.true_and, Bool.and_true, Bool.not_true, Bool.not_false, Bool.and_self, List.all_nil, List.all_cons, List.nodup_nil, List.nodup_cons, List.not_mem_nil, not_false_eq_true, and_true, List.contains_nil, List.contains_eq_mem, decide_true, decide_false, Option.getD_some, Option.getD_none, d1, r1, h1, h6, l1, d3, r2, h9, List.length_map, l2, h13, l3, h16, d6]
end K23

set_option Elab.async false
set_option linter.all false
set_option maxRecDepth 100000
set_option maxHeartbeats 0
namespace K23
open PySem PySem.Spec L2 Wk
theorem atI_nat {xs : List D} {i : Nat} (h : i < xs.length) : atI xs (0 + (i : Int)) = some xs[i] := by
  have e : (0 + (i : Int)).toNat = i := by omega
  obtain ⟨x, h1, h2⟩ := atI_ok (xs := xs) (i := 0 + (i : Int)) (by omega) (by omega)
  rw [h2, ← h1, e]
  simp [h]
/-- data that the law compares -/
def plainD : Nat → D → Bool
  | _, .none => true
  | _, .bool _ => true
  | _, .int _ => true
  | _, .str _ => true
  | n + 1, .tuple xs => decide (xs.length ≤ 100000) && xs.all (plainD n)
  | _, _ => false
theorem same_ok {k : Nat} : ∀ (n : Nat) (d : D), plainD n d = true → C (k + n + 1) i_law_same [.im d, .im d] = .ok (.im (.bool true), []) := by
  intro n
  induction n with
  | zero =>
    intro d hd
    have key : ∀ ρ, startS db_law_same.fd [.im d, .im d] = ρ → C (k + 0 + 1) i_law_same [.im d, .im d] = outCall [.im d, .im d] (evSs (C (k + 0)) 200 b_law_same ρ) := fun ρ h => call_unf (d := db_law_same) rfl rfl ρ h
    rw [key [some (.im d), some (.im d), none] rfl]
    unfold b_law_same
    cases d with
    | none => simp (decide := true) only [evSs, evS, evE, evT, evEs, evAs, evO, evC, evR, evSc, evScN, srcN, slotC, R.ok_bind, R.exc_bind, R.bad_bind, R.ok_out, R.exc_out, R.bad_out, setS, cn_im, cn_own, cn_bor, cn_chg, cn_lst, cn_dct, cn_set, datR_im, datR_lst, tru_none, tru_bool, tru_int, tru_list, tru_tuple, trd_none, trd_bool, trd_int, trd_list, trd_tuple, len_list, len_tuple, len_dct, cv_int, cv_tup1, cv_tup2, cv_lst1, cv_lst2, slD_int, slD_tuple, slD_str, slD_list,
  isi_none, isi_bool, isi_int, isi_str, isi_tuple, isi_list, isTy, arg_im, arg_own, grd_true, get_0, get_s, var_eq, mov_eq, bor_eq, mut_eq, put_eq, fin_eq, lk_eq, un_eq, var_im, var_own, mov_im, mov_own, bor_im, bor_own, bor_bor, bor_chg, mut_own, mut_chg, put_own, put_chg, puts_nil, puts_cons, app_own, app_chg, isl_list, isd_dct, fin_nil, fin_im, fin_bor, fin_own, fin_chg, out_ret, out_nx, ob_nx, ob_ret, ob_brk, ob_cnt, ul_nx, ul_ret, bp_im, bp_own, bp_t, bps_nil, bps_cons, lk_nil, lk_im, lk_bor, lk_own, lk_chg, un_nil, un_own, un_chg, un_im, un_bor, nox_ok, if_true, if_false, Bool.false_eq_true, as_nil, as_e, as_bor, as_chg,
  As.muts, As.bors, Sc.locks, Rdo.locks, Pt.slots, Pt.slotss, wipeS, backS, bAdd, bSub, c_lt, c_le, c_gt, c_ge, c_eq, c_ne, c_eqs, augD, itemsE, itemsS, isN_none, isN_bool, isN_int, isN_str, isN_tuple, isN_list, opt_none, Bool.xor_false, Bool.false_xor, Bool.true_xor, Bool.xor_true,
  List.getElem?_cons_zero, List.getElem?_cons_succ, List.getElem?_nil, List.set_cons_zero, List.set_cons_succ, List.length_cons, List.length_nil, List.map_cons, List.map_nil, Bool.true_and, Bool.and_true, Bool.not_true, Bool.not_false, Bool.and_self, List.all_nil, List.all_cons, List.nodup_nil, List.nodup_cons, List.not_mem_nil, not_false_eq_true, and_true, List.contains_nil, List.contains_eq_mem, decide_true, decide_false, Option.getD_some, Option.getD_none]
    | bool b =>
      have e : cmpD .eq (.bool b) (.bool b) = .ok true := by cases b <;> rfl
      simp (decide := true) only [evSs, evS, evE, evT, evEs, evAs, evO, evC, evR, evSc, evScN, srcN, slotC, R.ok_bind, R.exc_bind, R.bad_bind, R.ok_out, R.exc_out, R.bad_out, setS, cn_im, cn_own, cn_bor, cn_chg, cn_lst, cn_dct, cn_set, datR_im, datR_lst, tru_none, tru_bool, tru_int, tru_list, tru_tuple, trd_none, trd_bool, trd_int, trd_list, trd_tuple, len_list, len_tuple, len_dct, cv_int, cv_tup1, cv_tup2, cv_lst1, cv_lst2, slD_int, slD_tuple, slD_str, slD_list,
  isi_none, isi_bool, isi_int, isi_str, isi_tuple, isi_list, isTy, arg_im, arg_own, grd_true, get_0, get_s, var_eq, mov_eq, bor_eq, mut_eq, put_eq, fin_eq, lk_eq, un_eq, var_im, var_own, mov_im, mov_own, bor_im, bor_own, bor_bor, bor_chg, mut_own, mut_chg, put_own, put_chg, puts_nil, puts_cons, app_own, app_chg, isl_list, isd_dct, fin_nil, fin_im, fin_bor, fin_own, fin_chg, out_ret, out_nx, ob_nx, ob_ret, ob_brk, ob_cnt, ul_nx, ul_ret, bp_im, bp_own, bp_t, bps_nil, bps_cons, lk_nil, lk_im, lk_bor, lk_own, lk_chg, un_nil, un_own, un_chg, un_im, un_bor, nox_ok, if_true, if_false, Bool.false_eq_true, as_nil, as_e, as_bor, as_chg,
  As.muts, As.bors, Sc.locks, Rdo.locks, Pt.slots, Pt.slotss, wipeS, backS, bAdd, bSub, c_lt, c_le, c_gt, c_ge, c_eq, c_ne, c_eqs, augD, itemsE, itemsS, isN_none, isN_bool, isN_int, isN_str, isN_tuple, isN_list, opt_none, Bool.xor_false, Bool.false_xor, Bool.true_xor, Bool.xor_true,
  List.getElem?_cons_zero, List.getElem?_cons_succ, List.getElem?_nil, List.set_cons_zero, List.set_cons_succ, List.length_cons, List.length_nil, List.map_cons, List.map_nil, Bool.true_and, Bool.and_true, Bool.not_true, Bool.not_false, Bool.and_self, List.all_nil, List.all_cons, List.nodup_nil, List.nodup_cons, List.not_mem_nil, not_false_eq_true, and_true, List.contains_nil, List.contains_eq_mem, decide_true, decide_false, Option.getD_some, Option.getD_none, e]
    | int i => simp (decide := true) only [evSs, evS, evE, evT, evEs, evAs, evO, evC, evR, evSc, evScN, srcN, slotC, R.ok_bind, R.exc_bind, R.bad_bind, R.ok_out, R.exc_out, R.bad_out, setS, cn_im, cn_own, cn_bor, cn_chg, cn_lst, cn_dct, cn_set, datR_im, datR_lst, tru_none, tru_bool, tru_int, tru_list, tru_tuple, trd_none, trd_bool, trd_int, trd_list, trd_tuple, len_list, len_tuple, len_dct, cv_int, cv_tup1, cv_tup2, cv_lst1, cv_lst2, slD_int, slD_tuple, slD_str, slD_list,
  isi_none, isi_bool, isi_int, isi_str, isi_tuple, isi_list, isTy, arg_im, arg_own, grd_true, get_0, get_s, var_eq, mov_eq, bor_eq, mut_eq, put_eq, fin_eq, lk_eq, un_eq, var_im, var_own, mov_im, mov_own, bor_im, bor_own, bor_bor, bor_chg, mut_own, mut_chg, put_own, put_chg, puts_nil, puts_cons, app_own, app_chg, isl_list, isd_dct, fin_nil, fin_im, fin_bor, fin_own, fin_chg, out_ret, out_nx, ob_nx, ob_ret, ob_brk, ob_cnt, ul_nx, ul_ret, bp_im, bp_own, bp_t, bps_nil, bps_cons, lk_nil, lk_im, lk_bor, lk_own, lk_chg, un_nil, un_own, un_chg, un_im, un_bor, nox_ok, if_true, if_false, Bool.false_eq_true, as_nil, as_e, as_bor, as_chg,
  As.muts, As.bors, Sc.locks, Rdo.locks, Pt.slots, Pt.slotss, wipeS, backS, bAdd, bSub, c_lt, c_le, c_gt, c_ge, c_eq, c_ne, c_eqs, augD, itemsE, itemsS, isN_none, isN_bool, isN_int, isN_str, isN_tuple, isN_list, opt_none, Bool.xor_false, Bool.false_xor, Bool.true_xor, Bool.xor_true,
  List.getElem?_cons_zero, List.getElem?_cons_succ, List.getElem?_nil, List.set_cons_zero, List.set_cons_succ, List.length_cons, List.length_nil, List.map_cons, List.map_nil, Bool.true_and, Bool.and_true, Bool.not_true, Bool.not_false, Bool.and_self, List.all_nil, List.all_cons, List.nodup_nil, List.nodup_cons, List.not_mem_nil, not_false_eq_true, and_true, List.contains_nil, List.contains_eq_mem, decide_true, decide_false, Option.getD_some, Option.getD_none]
    | str s => simp (decide := true) only [evSs, evS, evE, evT, evEs, evAs, evO, evC, evR, evSc, evScN, srcN, slotC, R.ok_bind, R.exc_bind, R.bad_bind, R.ok_out, R.exc_out, R.bad_out, setS, cn_im, cn_own, cn_bor, cn_chg, cn_lst, cn_dct, cn_set, datR_im, datR_lst, tru_none, tru_bool, tru_int, tru_list, tru_tuple, trd_none, trd_bool, trd_int, trd_list, trd_tuple, len_list, len_tuple, len_dct, cv_int, cv_tup1, cv_tup2, cv_lst1, cv_lst2, slD_int, slD_tuple, slD_str, slD_list,
  isi_none, isi_bool, isi_int, isi_str, isi_tuple, isi_list, isTy, arg_im, arg_own, grd_true, get_0, get_s, var_eq, mov_eq, bor_eq, mut_eq, put_eq, fin_eq, lk_eq, un_eq, var_im, var_own, mov_im, mov_own, bor_im, bor_own, bor_bor, bor_chg, mut_own, mut_chg, put_own, put_chg, puts_nil, puts_cons, app_own, app_chg, isl_list, isd_dct, fin_nil, fin_im, fin_bor, fin_own, fin_chg, out_ret, out_nx, ob_nx, ob_ret, ob_brk, ob_cnt, ul_nx, ul_ret, bp_im, bp_own, bp_t, bps_nil, bps_cons, lk_nil, lk_im, lk_bor, lk_own, lk_chg, un_nil, un_own, un_chg, un_im, un_bor, nox_ok, if_true, if_false, Bool.false_eq_true, as_nil, as_e, as_bor, as_chg,
  As.muts, As.bors, Sc.locks, Rdo.locks, Pt.slots, Pt.slotss, wipeS, backS, bAdd, bSub, c_lt, c_le, c_gt, c_ge, c_eq, c_ne, c_eqs, augD, itemsE, itemsS, isN_none, isN_bool, isN_int, isN_str, isN_tuple, isN_list, opt_none, Bool.xor_false, Bool.false_xor, Bool.true_xor, Bool.xor_true,
  List.getElem?_cons_zero, List.getElem?_cons_succ, List.getElem?_nil, List.set_cons_zero, List.set_cons_succ, List.length_cons, List.length_nil, List.map_cons, List.map_nil, Bool.true_and, Bool.and_true, Bool.not_true, Bool.not_false, Bool.and_self, List.all_nil, List.all_cons, List.nodup_nil, List.nodup_cons, List.not_mem_nil, not_false_eq_true, and_true, List.contains_nil, List.contains_eq_mem, decide_true, decide_false, Option.getD_some, Option.getD_none]
    | list xs => cases hd
    | tuple xs => cases hd
    | dict xs => cases hd
  | succ n ih =>
    intro d hd
    have key : ∀ ρ, startS db_law_same.fd [.im d, .im d] = ρ → C (k + (n + 1) + 1) i_law_same [.im d, .im d] = outCall [.im d, .im d] (evSs (C (k + n + 1)) 200 b_law_same ρ) := fun ρ h => call_unf (k := k + n + 1) (d := db_law_same) rfl rfl ρ h
    rw [key [some (.im d), some (.im d), none] rfl]
    cases d with
    | none => unfold b_law_same; simp (decide := true) only [evSs, evS, evE, evT, evEs, evAs, evO, evC, evR, evSc, evScN, srcN, slotC, R.ok_bind, R.exc_bind, R.bad_bind, R.ok_out, R.exc_out, R.bad_out, setS, cn_im, cn_own, cn_bor, cn_chg, cn_lst, cn_dct, cn_set, datR_im, datR_lst, tru_none, tru_bool, tru_int, tru_list, tru_tuple, trd_none, trd_bool, trd_int, trd_list, trd_tuple, len_list, len_tuple, len_dct, cv_int, cv_tup1, cv_tup2, cv_lst1, cv_lst2, slD_int, slD_tuple, slD_str, slD_list,
  isi_none, isi_bool, isi_int, isi_str, isi_tuple, isi_list, isTy, arg_im, arg_own, grd_true, get_0, get_s, var_eq, mov_eq, bor_eq, mut_eq, put_eq, fin_eq, lk_eq, un_eq, var_im, var_own, mov_im, mov_own, bor_im, bor_own, bor_bor, bor_chg, mut_own, mut_chg, put_own, put_chg, puts_nil, puts_cons, app_own, app_chg, isl_list, isd_dct, fin_nil, fin_im, fin_bor, fin_own, fin_chg, out_ret, out_nx, ob_nx, ob_ret, ob_brk, ob_cnt, ul_nx, ul_ret, bp_im, bp_own, bp_t, bps_nil, bps_cons, lk_nil, lk_im, lk_bor, lk_own, lk_chg, un_nil, un_own, un_chg, un_im, un_bor, nox_ok, if_true, if_false, Bool.false_eq_true, as_nil, as_e, as_bor, as_chg,
  As.muts, As.bors, Sc.locks, Rdo.locks, Pt.slots, Pt.slotss, wipeS, backS, bAdd, bSub, c_lt, c_le, c_gt, c_ge, c_eq, c_ne, c_eqs, augD, itemsE, itemsS, isN_none, isN_bool, isN_int, isN_str, isN_tuple, isN_list, opt_none, Bool.xor_false, Bool.false_xor, Bool.true_xor, Bool.xor_true,
  List.getElem?_cons_zero, List.getElem?_cons_succ, List.getElem?_nil, List.set_cons_zero, List.set_cons_succ, List.length_cons, List.length_nil, List.map_cons, List.map_nil, Bool.true_and, Bool.and_true, Bool.not_true, Bool.not_false, Bool.and_self, List.all_nil, List.all_cons, List.nodup_nil, List.nodup_cons, List.not_mem_nil, not_false_eq_true, and_true, List.contains_nil, List.contains_eq_mem, decide_true, decide_false, Option.getD_some, Option.getD_none]
    | bool b =>
      have e : cmpD .eq (.bool b) (.bool b) = .ok true := by cases b <;> rfl
      unfold b_law_same
      simp (decide := true) only [evSs, evS, evE, evT, evEs, evAs, evO, evC, evR, evSc, evScN, srcN, slotC, R.ok_bind, R.exc_bind, R.bad_bind, R.ok_out, R.exc_out, R.bad_out, setS, cn_im, cn_own, cn_bor, cn_chg, cn_lst, cn_dct, cn_set, datR_im, datR_lst, tru_none, tru_bool, tru_int, tru_list, tru_tuple, trd_none, trd_bool, trd_int, trd_list, trd_tuple, len_list, len_tuple, len_dct, cv_int, cv_tup1, cv_tup2, cv_lst1, cv_lst2, slD_int, slD_tuple, slD_str, slD_list,
  isi_none, isi_bool, isi_int, isi_str, isi_tuple, isi_list, isTy, arg_im, arg_own, grd_true, get_0, get_s, var_eq, mov_eq, bor_eq, mut_eq, put_eq, fin_eq, lk_eq, un_eq, var_im, var_own, mov_im, mov_own, bor_im, bor_own, bor_bor, bor_chg, mut_own, mut_chg, put_own, put_chg, puts_nil, puts_cons, app_own, app_chg, isl_list, isd_dct, fin_nil, fin_im, fin_bor, fin_own, fin_chg, out_ret, out_nx, ob_nx, ob_ret, ob_brk, ob_cnt, ul_nx, ul_ret, bp_im, bp_own, bp_t, bps_nil, bps_cons, lk_nil, lk_im, lk_bor, lk_own, lk_chg, un_nil, un_own, un_chg, un_im, un_bor, nox_ok, if_true, if_false, Bool.false_eq_true, as_nil, as_e, as_bor, as_chg,
  As.muts, As.bors, Sc.locks, Rdo.locks, Pt.slots, Pt.slotss, wipeS, backS, bAdd, bSub, c_lt, c_le, c_gt, c_ge, c_eq, c_ne, c_eqs, augD, itemsE, itemsS, isN_none, isN_bool, isN_int, isN_str, isN_tuple, isN_list, opt_none, Bool.xor_false, Bool.false_xor, Bool.true_xor, Bool.xor_true,
  List.getElem?_cons_zero, List.getElem?_cons_succ, List.getElem?_nil, List.set_cons_zero, List.set_cons_succ, List.length_cons, List.length_nil, List.map_cons, List.map_nil, Bool.true_and, Bool.and_true, Bool.not_true, Bool.not_false, Bool.and_self, List.all_nil, List.all_cons, List.nodup_nil, List.nodup_cons, List.not_mem_nil, not_false_eq_true, and_true, List.contains_nil, List.contains_eq_mem, decide_true, decide_false, Option.getD_some, Option.getD_none, e]
    | int i => unfold b_law_same; simp (decide := true) only [evSs, evS, evE, evT, evEs, evAs, evO, evC, evR, evSc, evScN, srcN, slotC, R.ok_bind, R.exc_bind, R.bad_bind, R.ok_out, R.exc_out, R.bad_out, setS, cn_im, cn_own, cn_bor, cn_chg, cn_lst, cn_dct, cn_set, datR_im, datR_lst, tru_none, tru_bool, tru_int, tru_list, tru_tuple, trd_none, trd_bool, trd_int, trd_list, trd_tuple, len_list, len_tuple, len_dct, cv_int, cv_tup1, cv_tup2, cv_lst1, cv_lst2, slD_int, slD_tuple, slD_str, slD_list,
  isi_none, isi_bool, isi_int, isi_str, isi_tuple, isi_list, isTy, arg_im, arg_own, grd_true, get_0, get_s, var_eq, mov_eq, bor_eq, mut_eq, put_eq, fin_eq, lk_eq, un_eq, var_im, var_own, mov_im, mov_own, bor_im, bor_own, bor_bor, bor_chg, mut_own, mut_chg, put_own, put_chg, puts_nil, puts_cons, app_own, app_chg, isl_list, isd_dct, fin_nil, fin_im, fin_bor, fin_own, fin_chg, out_ret, out_nx, ob_nx, ob_ret, ob_brk, ob_cnt, ul_nx, ul_ret, bp_im, bp_own, bp_t, bps_nil, bps_cons, lk_nil, lk_im, lk_bor, lk_own, lk_chg, un_nil, un_own, un_chg, un_im, un_bor, nox_ok, if_true, if_false, Bool.false_eq_true, as_nil, as_e, as_bor, as_chg,
  As.muts, As.bors, Sc.locks, Rdo.locks, Pt.slots, Pt.slotss, wipeS, backS, bAdd, bSub, c_lt, c_le, c_gt, c_ge, c_eq, c_ne, c_eqs, augD, itemsE, itemsS, isN_none, isN_bool, isN_int, isN_str, isN_tuple, isN_list, opt_none, Bool.xor_false, Bool.false_xor, Bool.true_xor, Bool.xor_true,
  List.getElem?_cons_zero, List.getElem?_cons_succ, List.getElem?_nil, List.set_cons_zero, List.set_cons_succ, List.length_cons, List.length_nil, List.map_cons, List.map_nil, Bool.true_and, Bool.and_true, Bool.not_true, Bool.not_false, Bool.and_self, List.all_nil, List.all_cons, List.nodup_nil, List.nodup_cons, List.not_mem_nil, not_false_eq_true, and_true, List.contains_nil, List.contains_eq_mem, decide_true, decide_false, Option.getD_some, Option.getD_none]
    | str s => unfold b_law_same; simp (decide := true) only [evSs, evS, evE, evT, evEs, evAs, evO, evC, evR, evSc, evScN, srcN, slotC, R.ok_bind, R.exc_bind, R.bad_bind, R.ok_out, R.exc_out, R.bad_out, setS, cn_im, cn_own, cn_bor, cn_chg, cn_lst, cn_dct, cn_set, datR_im, datR_lst, tru_none, tru_bool, tru_int, tru_list, tru_tuple, trd_none, trd_bool, trd_int, trd_list, trd_tuple, len_list, len_tuple, len_dct, cv_int, cv_tup1, cv_tup2, cv_lst1, cv_lst2, slD_int, slD_tuple, slD_str, slD_list,
  isi_none, isi_bool, isi_int, isi_str, isi_tuple, isi_list, isTy, arg_im, arg_own, grd_true, get_0, get_s, var_eq, mov_eq, bor_eq, mut_eq, put_eq, fin_eq, lk_eq, un_eq, var_im, var_own, mov_im, mov_own, bor_im, bor_own, bor_bor, bor_chg, mut_own, mut_chg, put_own, put_chg, puts_nil, puts_cons, app_own, app_chg, isl_list, isd_dct, fin_nil, fin_im, fin_bor, fin_own, fin_chg, out_ret, out_nx, ob_nx, ob_ret, ob_brk, ob_cnt, ul_nx, ul_ret, bp_im, bp_own, bp_t, bps_nil, bps_cons, lk_nil, lk_im, lk_bor, lk_own, lk_chg, un_nil, un_own, un_chg, un_im, un_bor, nox_ok, if_true, if_false, Bool.false_eq_true, as_nil, as_e, as_bor, as_chg,
  As.muts, As.bors, Sc.locks, Rdo.locks, Pt.slots, Pt.slotss, wipeS, backS, bAdd, bSub, c_lt, c_le, c_gt, c_ge, c_eq, c_ne, c_eqs, augD, itemsE, itemsS, isN_none, isN_bool, isN_int, isN_str, isN_tuple, isN_list, opt_none, Bool.xor_false, Bool.false_xor, Bool.true_xor, Bool.xor_true,
  List.getElem?_cons_zero, List.getElem?_cons_succ, List.getElem?_nil, List.set_cons_zero, List.set_cons_succ, List.length_cons, List.length_nil, List.map_cons, List.map_nil, Bool.true_and, Bool.and_true, Bool.not_true, Bool.not_false, Bool.and_self, List.all_nil, List.all_cons, List.nodup_nil, List.nodup_cons, List.not_mem_nil, not_false_eq_true, and_true, List.contains_nil, List.contains_eq_mem, decide_true, decide_false, Option.getD_some, Option.getD_none]
    | list xs => cases hd
    | dict xs => cases hd
    | tuple xs =>
      have hd : (decide (xs.length ≤ 100000) && xs.all (plainD n)) = true := hd
      simp only [Bool.and_eq_true, decide_eq_true_eq, List.all_eq_true] at hd
      obtain ⟨hl, hp⟩ := hd
      obtain ⟨ρ', h1, x2, h2⟩ := loopF_r (j := 2) (lo := 0) (n := xs.length) (b := evSs (C (k + n + 1)) 200 b_law_same_0) (fun _ ρ => ∃ x2 : Option Sl, ρ = [some (.im (.tuple xs)), some (.im (.tuple xs)), x2])
        (fun i ρ hi ⟨x2, h2⟩ => by
          subst h2
          refine ⟨[some (.im (.tuple xs)), some (.im (.tuple xs)), some (.im (.int (0 + i)))], ?_, _, rfl⟩
          have s1 := ih xs[i] (hp _ (List.getElem_mem hi))
          simp (decide := true) only [b_law_same_0, evSs, evS, evE, evT, evEs, evAs, evO, evC, evR, evSc, evScN, srcN, slotC, R.ok_bind, R.exc_bind, R.bad_bind, R.ok_out, R.exc_out, R.bad_out, setS, cn_im, cn_own, cn_bor, cn_chg, cn_lst, cn_dct, cn_set, datR_im, datR_lst, tru_none, tru_bool, tru_int, tru_list, tru_tuple, trd_none, trd_bool, trd_int, trd_list, trd_tuple, len_list, len_tuple, len_dct, cv_int, cv_tup1, cv_tup2, cv_lst1, cv_lst2, slD_int, slD_tuple, slD_str, slD_list,
  isi_none, isi_bool, isi_int, isi_str, isi_tuple, isi_list, isTy, arg_im, arg_own, grd_true, get_0, get_s, var_eq, mov_eq, bor_eq, mut_eq, put_eq, fin_eq, lk_eq, un_eq, var_im, var_own, mov_im, mov_own, bor_im, bor_own, bor_bor, bor_chg, mut_own, mut_chg, put_own, put_chg, puts_nil, puts_cons, app_own, app_chg, isl_list, isd_dct, fin_nil, fin_im, fin_bor, fin_own, fin_chg, out_ret, out_nx, ob_nx, ob_ret, ob_brk, ob_cnt, ul_nx, ul_ret, bp_im, bp_own, bp_t, bps_nil, bps_cons, lk_nil, lk_im, lk_bor, lk_own, lk_chg, un_nil, un_own, un_chg, un_im, un_bor, nox_ok, if_true, if_false, Bool.false_eq_true, as_nil, as_e, as_bor, as_chg,
  As.muts, As.bors, Sc.locks, Rdo.locks, Pt.slots, Pt.slotss, wipeS, backS, bAdd, bSub, c_lt, c_le, c_gt, c_ge, c_eq, c_ne, c_eqs, augD, itemsE, itemsS, isN_none, isN_bool, isN_int, isN_str, isN_tuple, isN_list, opt_none, Bool.xor_false, Bool.false_xor, Bool.true_xor, Bool.xor_true,
  List.getElem?_cons_zero, List.getElem?_cons_succ, List.getElem?_nil, List.set_cons_zero, List.set_cons_succ, List.length_cons, List.length_nil, List.map_cons, List.map_nil, Bool.true_and, Bool.and_true, Bool.not_true, Bool.not_false, Bool.and_self, List.all_nil, List.all_cons, List.nodup_nil, List.nodup_cons, List.not_mem_nil, not_false_eq_true, and_true, List.contains_nil, List.contains_eq_mem, decide_true, decide_false, Option.getD_some, Option.getD_none, idxT (atI_nat hi), s1]) [some (.im (.tuple xs)), some (.im (.tuple xs)), none] ⟨none, rfl⟩
      subst h2
      have r1 : range62 (xs.length : Int) = true := r62_nat hl
      have e1 : ((xs.length : Int)).toNat = xs.length := by omega
      unfold b_law_same
      simp (decide := true) only [evSs, evS, evE, evT, evEs, evAs, evO, evC, evR, evSc, evScN, srcN, slotC, R.ok_bind, R.exc_bind, R.bad_bind, R.ok_out, R.exc_out, R.bad_out, setS, cn_im, cn_own, cn_bor, cn_chg, cn_lst, cn_dct, cn_set, datR_im, datR_lst, tru_none, tru_bool, tru_int, tru_list, tru_tuple, trd_none, trd_bool, trd_int, trd_list, trd_tuple, len_list, len_tuple, len_dct, cv_int, cv_tup1, cv_tup2, cv_lst1, cv_lst2, slD_int, slD_tuple, slD_str, slD_list,
  isi_none, isi_bool, isi_int, isi_str, isi_tuple, isi_list, isTy, arg_im, arg_own, grd_true, get_0, get_s, var_eq, mov_eq, bor_eq, mut_eq, put_eq, fin_eq, lk_eq, un_eq, var_im, var_own, mov_im, mov_own, bor_im, bor_own, bor_bor, bor_chg, mut_own, mut_chg, put_own, put_chg, puts_nil, puts_cons, app_own, app_chg, isl_list, isd_dct, fin_nil, fin_im, fin_bor, fin_own, fin_chg, out_ret, out_nx, ob_nx, ob_ret, ob_brk, ob_cnt, ul_nx, ul_ret, bp_im, bp_own, bp_t, bps_nil, bps_cons, lk_nil, lk_im, lk_bor, lk_own, lk_chg, un_nil, un_own, un_chg, un_im, un_bor, nox_ok, if_true, if_false, Bool.false_eq_true, as_nil, as_e, as_bor, as_chg,
  As.muts, As.bors, Sc.locks, Rdo.locks, Pt.slots, Pt.slotss, wipeS, backS, bAdd, bSub, c_lt, c_le, c_gt, c_ge, c_eq, c_ne, c_eqs, augD, itemsE, itemsS, isN_none, isN_bool, isN_int, isN_str, isN_tuple, isN_list, opt_none, Bool.xor_false, Bool.false_xor, Bool.true_xor, Bool.xor_true,
  List.getElem?_cons_zero, List.getElem?_cons_succ, List.getElem?_nil, List.set_cons_zero, List.set_cons_succ, List.length_cons, List.length_nil, List.map_cons, List.map_nil, Bool.true_and, Bool.and_true, Bool.not_true, Bool.not_false, Bool.and_self, List.all_nil, List.all_cons, List.nodup_nil, List.nodup_cons, List.not_mem_nil, not_false_eq_true, and_true, List.contains_nil, List.contains_eq_mem, decide_true, decide_false, Option.getD_some, Option.getD_none, r1, e1, h1]
theorem plain_ints (n : Nat) {xs : List Int} (h : xs.length ≤ 100000) : plainD (n + 1) (intsT xs) = true := by
  show (decide ((xs.map PyData.int).length ≤ 100000) && (xs.map PyData.int).all (plainD n)) = true
  rw [List.length_map]
  simp only [Bool.and_eq_true, decide_eq_true_eq, List.all_eq_true]
  refine ⟨h, fun x hx => ?_⟩
  obtain ⟨y, _, rfl⟩ := List.mem_map.mp hx
  cases n <;> rfl
end K23

set_option Elab.async false
set_option linter.all false
set_option maxRecDepth 100000
set_option maxHeartbeats 0
namespace K23
open PySem PySem.Spec L2 Wk
/-! the program: what can be obtained -/
theorem numbers_of_ok {k : Nat} {h : Hx} (hk : h.Ok) : C (k + 1) i_numbers_of [.im h.d] = .ok (.im (intsT h.nums), []) := by
  have key : ∀ ρ, startS db_numbers_of.fd [.im h.d] = ρ → C (k + 1) i_numbers_of [.im h.d] = outCall [.im h.d] (evSs (C (k)) 200 b_numbers_of ρ) := fun ρ h => call_unf (k := k) (d := db_numbers_of) rfl rfl ρ h
  rw [key [some (.im h.d), none] rfl]
  unfold b_numbers_of
  have lp := fun n => loopC_g (p := .v 1) (own := [1]) (ρ := [some (.im h.d), none]) (c := evC n .no) (f := fun ρ => datR (evE n e_numbers_of_0 ρ)) Ob.d (fun o => [some (.im h.d), some (.im o.d)]) (fun _ => true) (fun o => PyData.int o.num) h.objs
    (fun o _ => ⟨bp_im, evC_no, fun _ => by simp only [e_numbers_of_0, evSs, evS, evE, evT, evEs, evAs, evO, evC, evR, evSc, evScN, srcN, slotC, R.ok_bind, R.exc_bind, R.bad_bind, R.ok_out, R.exc_out, R.bad_out, setS, cn_im, cn_own, cn_bor, cn_chg, cn_lst, cn_dct, cn_set, datR_im, datR_lst, tru_none, tru_bool, tru_int, tru_list, tru_tuple, trd_none, trd_bool, trd_int, trd_list, trd_tuple, len_list, len_tuple, len_dct, cv_int, cv_tup1, cv_tup2, cv_lst1, cv_lst2, slD_int, slD_tuple, slD_str, slD_list,
  isi_none, isi_bool, isi_int, isi_str, isi_tuple, isi_list, isTy, arg_im, arg_own, grd_true, get_0, get_s, var_eq, mov_eq, bor_eq, mut_eq, put_eq, fin_eq, lk_eq, un_eq, var_im, var_own, mov_im, mov_own, bor_im, bor_own, bor_bor, bor_chg, mut_own, mut_chg, put_own, put_chg, puts_nil, puts_cons, app_own, app_chg, isl_list, isd_dct, fin_nil, fin_im, fin_bor, fin_own, fin_chg, out_ret, out_nx, ob_nx, ob_ret, ob_brk, ob_cnt, ul_nx, ul_ret, bp_im, bp_own, bp_t, bps_nil, bps_cons, lk_nil, lk_im, lk_bor, lk_own, lk_chg, un_nil, un_own, un_chg, un_im, un_bor, nox_ok, if_true, if_false, Bool.false_eq_true, as_nil, as_e, as_bor, as_chg,
  As.muts, As.bors, Sc.locks, Rdo.locks, Pt.slots, Pt.slotss, wipeS, backS, bAdd, bSub, c_lt, c_le, c_gt, c_ge, c_eq, c_ne, c_eqs, augD, itemsE, itemsS, isN_none, isN_bool, isN_int, isN_str, isN_tuple, isN_list, opt_none, Bool.xor_false, Bool.false_xor, Bool.true_xor, Bool.xor_true,
  List.getElem?_cons_zero, List.getElem?_cons_succ, List.getElem?_nil, List.set_cons_zero, List.set_cons_succ, List.length_cons, List.length_nil, List.map_cons, List.map_nil, Bool.true_and, Bool.and_true, Bool.not_true, Bool.not_false, Bool.and_self, List.all_nil, List.all_cons, List.nodup_nil, List.nodup_cons, List.not_mem_nil, not_false_eq_true, and_true, List.contains_nil, List.contains_eq_mem, decide_true, decide_false, Option.getD_some, Option.getD_none, ob_num], rfl⟩)
  simp only [filter_all, nums_map] at lp
  have l1 : h.objs.length ≤ lineN := by have := hk.few; unfold Hx.nums at this; rw [List.length_map] at this; unfold lineN; omega
  simp (decide := true) only [evSs, evS, evE, evT, evEs, evAs, evO, evC, evR, evSc, evScN, srcN, slotC, R.ok_bind, R.exc_bind, R.bad_bind, R.ok_out, R.exc_out, R.bad_out, setS, cn_im, cn_own, cn_bor, cn_chg, cn_lst, cn_dct, cn_set, datR_im, datR_lst, tru_none, tru_bool, tru_int, tru_list, tru_tuple, trd_none, trd_bool, trd_int, trd_list, trd_tuple, len_list, len_tuple, len_dct, cv_int, cv_tup1, cv_tup2, cv_lst1, cv_lst2, slD_int, slD_tuple, slD_str, slD_list,
  isi_none, isi_bool, isi_int, isi_str, isi_tuple, isi_list, isTy, arg_im, arg_own, grd_true, get_0, get_s, var_eq, mov_eq, bor_eq, mut_eq, put_eq, fin_eq, lk_eq, un_eq, var_im, var_own, mov_im, mov_own, bor_im, bor_own, bor_bor, bor_chg, mut_own, mut_chg, put_own, put_chg, puts_nil, puts_cons, app_own, app_chg, isl_list, isd_dct, fin_nil, fin_im, fin_bor, fin_own, fin_chg, out_ret, out_nx, ob_nx, ob_ret, ob_brk, ob_cnt, ul_nx, ul_ret, bp_im, bp_own, bp_t, bps_nil, bps_cons, lk_nil, lk_im, lk_bor, lk_own, lk_chg, un_nil, un_own, un_chg, un_im, un_bor, nox_ok, if_true, if_false, Bool.false_eq_true, as_nil, as_e, as_bor, as_chg,
  As.muts, As.bors, Sc.locks, Rdo.locks, Pt.slots, Pt.slotss, wipeS, backS, bAdd, bSub, c_lt, c_le, c_gt, c_ge, c_eq, c_ne, c_eqs, augD, itemsE, itemsS, isN_none, isN_bool, isN_int, isN_str, isN_tuple, isN_list, opt_none, Bool.xor_false, Bool.false_xor, Bool.true_xor, Bool.xor_true,
  List.getElem?_cons_zero, List.getElem?_cons_succ, List.getElem?_nil, List.set_cons_zero, List.set_cons_succ, List.length_cons, List.length_nil, List.map_cons, List.map_nil, Bool.true_and, Bool.and_true, Bool.not_true, Bool.not_false, Bool.and_self, List.all_nil, List.all_cons, List.nodup_nil, List.nodup_cons, List.not_mem_nil, not_false_eq_true, and_true, List.contains_nil, List.contains_eq_mem, decide_true, decide_false, Option.getD_some, Option.getD_none, hx_4, lp, List.length_map, l1]
  rfl
theorem lnumbers_ok {k : Nat} {h : Hx} (hk : h.Ok) : C (k + 1) i_law_numbers [.im h.d] = .ok (.own (.lst (h.nums.map PyData.int)), []) := by
  have key : ∀ ρ, startS db_law_numbers.fd [.im h.d] = ρ → C (k + 1) i_law_numbers [.im h.d] = outCall [.im h.d] (evSs (C (k)) 200 b_law_numbers ρ) := fun ρ h => call_unf (k := k) (d := db_law_numbers) rfl rfl ρ h
  rw [key [some (.im h.d), none] rfl]
  unfold b_law_numbers
  have lp := fun n => loopC_g (p := .v 1) (own := [1]) (ρ := [some (.im h.d), none]) (c := evC n .no) (f := fun ρ => datR (evE n e_law_numbers_0 ρ)) Ob.d (fun o => [some (.im h.d), some (.im o.d)]) (fun _ => true) (fun o => PyData.int o.num) h.objs
    (fun o _ => ⟨bp_im, evC_no, fun _ => by simp only [e_law_numbers_0, evSs, evS, evE, evT, evEs, evAs, evO, evC, evR, evSc, evScN, srcN, slotC, R.ok_bind, R.exc_bind, R.bad_bind, R.ok_out, R.exc_out, R.bad_out, setS, cn_im, cn_own, cn_bor, cn_chg, cn_lst, cn_dct, cn_set, datR_im, datR_lst, tru_none, tru_bool, tru_int, tru_list, tru_tuple, trd_none, trd_bool, trd_int, trd_list, trd_tuple, len_list, len_tuple, len_dct, cv_int, cv_tup1, cv_tup2, cv_lst1, cv_lst2, slD_int, slD_tuple, slD_str, slD_list,
  isi_none, isi_bool, isi_int, isi_str, isi_tuple, isi_list, isTy, arg_im, arg_own, grd_true, get_0, get_s, var_eq, mov_eq, bor_eq, mut_eq, put_eq, fin_eq, lk_eq, un_eq, var_im, var_own, mov_im, mov_own, bor_im, bor_own, bor_bor, bor_chg, mut_own, mut_chg, put_own, put_chg, puts_nil, puts_cons, app_own, app_chg, isl_list, isd_dct, fin_nil, fin_im, fin_bor, fin_own, fin_chg, out_ret, out_nx, ob_nx, ob_ret, ob_brk, ob_cnt, ul_nx, ul_ret, bp_im, bp_own, bp_t, bps_nil, bps_cons, lk_nil, lk_im, lk_bor, lk_own, lk_chg, un_nil, un_own, un_chg, un_im, un_bor, nox_ok, if_true, if_false, Bool.false_eq_true, as_nil, as_e, as_bor, as_chg,
  As.muts, As.bors, Sc.locks, Rdo.locks, Pt.slots, Pt.slotss, wipeS, backS, bAdd, bSub, c_lt, c_le, c_gt, c_ge, c_eq, c_ne, c_eqs, augD, itemsE, itemsS, isN_none, isN_bool, isN_int, isN_str, isN_tuple, isN_list, opt_none, Bool.xor_false, Bool.false_xor, Bool.true_xor, Bool.xor_true,
  List.getElem?_cons_zero, List.getElem?_cons_succ, List.getElem?_nil, List.set_cons_zero, List.set_cons_succ, List.length_cons, List.length_nil, List.map_cons, List.map_nil, Bool.true_and, Bool.and_true, Bool.not_true, Bool.not_false, Bool.and_self, List.all_nil, List.all_cons, List.nodup_nil, List.nodup_cons, List.not_mem_nil, not_false_eq_true, and_true, List.contains_nil, List.contains_eq_mem, decide_true, decide_false, Option.getD_some, Option.getD_none, ob_num], rfl⟩)
  simp only [filter_all, nums_map] at lp
  have l1 : h.objs.length ≤ lineN := by have := hk.few; unfold Hx.nums at this; rw [List.length_map] at this; unfold lineN; omega
  simp (decide := true) only [evSs, evS, evE, evT, evEs, evAs, evO, evC, evR, evSc, evScN, srcN, slotC, R.ok_bind, R.exc_bind, R.bad_bind, R.ok_out, R.exc_out, R.bad_out, setS, cn_im, cn_own, cn_bor, cn_chg, cn_lst, cn_dct, cn_set, datR_im, datR_lst, tru_none, tru_bool, tru_int, tru_list, tru_tuple, trd_none, trd_bool, trd_int, trd_list, trd_tuple, len_list, len_tuple, len_dct, cv_int, cv_tup1, cv_tup2, cv_lst1, cv_lst2, slD_int, slD_tuple, slD_str, slD_list,
  isi_none, isi_bool, isi_int, isi_str, isi_tuple, isi_list, isTy, arg_im, arg_own, grd_true, get_0, get_s, var_eq, mov_eq, bor_eq, mut_eq, put_eq, fin_eq, lk_eq, un_eq, var_im, var_own, mov_im, mov_own, bor_im, bor_own, bor_bor, bor_chg, mut_own, mut_chg, put_own, put_chg, puts_nil, puts_cons, app_own, app_chg, isl_list, isd_dct, fin_nil, fin_im, fin_bor, fin_own, fin_chg, out_ret, out_nx, ob_nx, ob_ret, ob_brk, ob_cnt, ul_nx, ul_ret, bp_im, bp_own, bp_t, bps_nil, bps_cons, lk_nil, lk_im, lk_bor, lk_own, lk_chg, un_nil, un_own, un_chg, un_im, un_bor, nox_ok, if_true, if_false, Bool.false_eq_true, as_nil, as_e, as_bor, as_chg,
  As.muts, As.bors, Sc.locks, Rdo.locks, Pt.slots, Pt.slotss, wipeS, backS, bAdd, bSub, c_lt, c_le, c_gt, c_ge, c_eq, c_ne, c_eqs, augD, itemsE, itemsS, isN_none, isN_bool, isN_int, isN_str, isN_tuple, isN_list, opt_none, Bool.xor_false, Bool.false_xor, Bool.true_xor, Bool.xor_true,
  List.getElem?_cons_zero, List.getElem?_cons_succ, List.getElem?_nil, List.set_cons_zero, List.set_cons_succ, List.length_cons, List.length_nil, List.map_cons, List.map_nil, Bool.true_and, Bool.and_true, Bool.not_true, Bool.not_false, Bool.and_self, List.all_nil, List.all_cons, List.nodup_nil, List.nodup_cons, List.not_mem_nil, not_false_eq_true, and_true, List.contains_nil, List.contains_eq_mem, decide_true, decide_false, Option.getD_some, Option.getD_none, hx_4, lp, List.length_map, l1]
  rfl
theorem by_number_ok {k : Nat} {h : Hx} (hk : h.Ok) : C (k + 1) i_by_number [.im h.d] = .ok (.own (.dct (dctO h.objs)), []) := by
  have key : ∀ ρ, startS db_by_number.fd [.im h.d] = ρ → C (k + 1) i_by_number [.im h.d] = outCall [.im h.d] (evSs (C (k)) 200 b_by_number ρ) := fun ρ h => call_unf (k := k) (d := db_by_number) rfl rfl ρ h
  rw [key [some (.im h.d), none] rfl]
  unfold b_by_number
  have lp := fun n => loopD_g (p := .v 1) (own := [1]) (ρ := [some (.im h.d), none]) (c := evC n .no) (f := fun ρ => datR (evE n e_by_number_0 ρ) >>= fun rk => datR (evE n e_by_number_1 rk.2) >>= fun rv => .ok ((rk.1, rv.1), rv.2)) Ob.d (fun o => [some (.im h.d), some (.im o.d)]) (fun o => (PyData.int o.num, o.d)) dctO (fun os o => os ++ [o]) h.objs []
    (fun o _ => ⟨bp_im, evC_no, by simp only [e_by_number_0, e_by_number_1, evSs, evS, evE, evT, evEs, evAs, evO, evC, evR, evSc, evScN, srcN, slotC, R.ok_bind, R.exc_bind, R.bad_bind, R.ok_out, R.exc_out, R.bad_out, setS, cn_im, cn_own, cn_bor, cn_chg, cn_lst, cn_dct, cn_set, datR_im, datR_lst, tru_none, tru_bool, tru_int, tru_list, tru_tuple, trd_none, trd_bool, trd_int, trd_list, trd_tuple, len_list, len_tuple, len_dct, cv_int, cv_tup1, cv_tup2, cv_lst1, cv_lst2, slD_int, slD_tuple, slD_str, slD_list,
  isi_none, isi_bool, isi_int, isi_str, isi_tuple, isi_list, isTy, arg_im, arg_own, grd_true, get_0, get_s, var_eq, mov_eq, bor_eq, mut_eq, put_eq, fin_eq, lk_eq, un_eq, var_im, var_own, mov_im, mov_own, bor_im, bor_own, bor_bor, bor_chg, mut_own, mut_chg, put_own, put_chg, puts_nil, puts_cons, app_own, app_chg, isl_list, isd_dct, fin_nil, fin_im, fin_bor, fin_own, fin_chg, out_ret, out_nx, ob_nx, ob_ret, ob_brk, ob_cnt, ul_nx, ul_ret, bp_im, bp_own, bp_t, bps_nil, bps_cons, lk_nil, lk_im, lk_bor, lk_own, lk_chg, un_nil, un_own, un_chg, un_im, un_bor, nox_ok, if_true, if_false, Bool.false_eq_true, as_nil, as_e, as_bor, as_chg,
  As.muts, As.bors, Sc.locks, Rdo.locks, Pt.slots, Pt.slotss, wipeS, backS, bAdd, bSub, c_lt, c_le, c_gt, c_ge, c_eq, c_ne, c_eqs, augD, itemsE, itemsS, isN_none, isN_bool, isN_int, isN_str, isN_tuple, isN_list, opt_none, Bool.xor_false, Bool.false_xor, Bool.true_xor, Bool.xor_true,
  List.getElem?_cons_zero, List.getElem?_cons_succ, List.getElem?_nil, List.set_cons_zero, List.set_cons_succ, List.length_cons, List.length_nil, List.map_cons, List.map_nil, Bool.true_and, Bool.and_true, Bool.not_true, Bool.not_false, Bool.and_self, List.all_nil, List.all_cons, List.nodup_nil, List.nodup_cons, List.not_mem_nil, not_false_eq_true, and_true, List.contains_nil, List.contains_eq_mem, decide_true, decide_false, Option.getD_some, Option.getD_none, ob_num], rfl, rfl⟩)
    (fun ys x zs e => by
      rw [foldl_snoc, foldl_snoc]
      refine put_dctO fun q => ?_
      have nd : (h.objs.map Ob.num).Nodup := hk.nodup
      rw [e, List.map_append, List.nodup_append] at nd
      exact nd.2.2 _ q x.num (by simp) rfl)
  simp only [foldl_snoc] at lp
  have l1 : h.objs.length ≤ lineN := by have := hk.few; unfold Hx.nums at this; rw [List.length_map] at this; unfold lineN; omega
  have e0 : dctO [] = [] := rfl
  rw [e0] at lp
  simp (decide := true) only [evSs, evS, evE, evT, evEs, evAs, evO, evC, evR, evSc, evScN, srcN, slotC, R.ok_bind, R.exc_bind, R.bad_bind, R.ok_out, R.exc_out, R.bad_out, setS, cn_im, cn_own, cn_bor, cn_chg, cn_lst, cn_dct, cn_set, datR_im, datR_lst, tru_none, tru_bool, tru_int, tru_list, tru_tuple, trd_none, trd_bool, trd_int, trd_list, trd_tuple, len_list, len_tuple, len_dct, cv_int, cv_tup1, cv_tup2, cv_lst1, cv_lst2, slD_int, slD_tuple, slD_str, slD_list,
  isi_none, isi_bool, isi_int, isi_str, isi_tuple, isi_list, isTy, arg_im, arg_own, grd_true, get_0, get_s, var_eq, mov_eq, bor_eq, mut_eq, put_eq, fin_eq, lk_eq, un_eq, var_im, var_own, mov_im, mov_own, bor_im, bor_own, bor_bor, bor_chg, mut_own, mut_chg, put_own, put_chg, puts_nil, puts_cons, app_own, app_chg, isl_list, isd_dct, fin_nil, fin_im, fin_bor, fin_own, fin_chg, out_ret, out_nx, ob_nx, ob_ret, ob_brk, ob_cnt, ul_nx, ul_ret, bp_im, bp_own, bp_t, bps_nil, bps_cons, lk_nil, lk_im, lk_bor, lk_own, lk_chg, un_nil, un_own, un_chg, un_im, un_bor, nox_ok, if_true, if_false, Bool.false_eq_true, as_nil, as_e, as_bor, as_chg,
  As.muts, As.bors, Sc.locks, Rdo.locks, Pt.slots, Pt.slotss, wipeS, backS, bAdd, bSub, c_lt, c_le, c_gt, c_ge, c_eq, c_ne, c_eqs, augD, itemsE, itemsS, isN_none, isN_bool, isN_int, isN_str, isN_tuple, isN_list, opt_none, Bool.xor_false, Bool.false_xor, Bool.true_xor, Bool.xor_true,
  List.getElem?_cons_zero, List.getElem?_cons_succ, List.getElem?_nil, List.set_cons_zero, List.set_cons_succ, List.length_cons, List.length_nil, List.map_cons, List.map_nil, Bool.true_and, Bool.and_true, Bool.not_true, Bool.not_false, Bool.and_self, List.all_nil, List.all_cons, List.nodup_nil, List.nodup_cons, List.not_mem_nil, not_false_eq_true, and_true, List.contains_nil, List.contains_eq_mem, decide_true, decide_false, Option.getD_some, Option.getD_none, hx_4, lp, List.length_map, l1]
  rfl
theorem held_in_ok {k : Nat} {rs : List (Option Int)} (hl : rs.length ≤ 1000) : C (k + 1) i_held_in [.im (.tuple (rs.map optD))] = .ok (.own (.lst ((rs.filterMap id).map PyData.int)), []) := by
  have key : ∀ ρ, startS db_held_in.fd [.im (.tuple (rs.map optD))] = ρ → C (k + 1) i_held_in [.im (.tuple (rs.map optD))] = outCall [.im (.tuple (rs.map optD))] (evSs (C (k)) 200 b_held_in ρ) := fun ρ h => call_unf (k := k) (d := db_held_in) rfl rfl ρ h
  rw [key [some (.im (.tuple (rs.map optD))), none] rfl]
  unfold b_held_in
  have lp := fun n => loopC_g (p := .v 1) (own := [1]) (ρ := [some (.im (.tuple (rs.map optD))), none]) (c := evC n c_held_in_1) (f := fun ρ => datR (evE n e_held_in_0 ρ)) optD (fun r => [some (.im (.tuple (rs.map optD))), some (.im (optD r))]) (fun r => !r.isNone) optD rs
    (fun r _ => ⟨bp_im, by simp only [c_held_in_1, evSs, evS, evE, evT, evEs, evAs, evO, evC, evR, evSc, evScN, srcN, slotC, R.ok_bind, R.exc_bind, R.bad_bind, R.ok_out, R.exc_out, R.bad_out, setS, cn_im, cn_own, cn_bor, cn_chg, cn_lst, cn_dct, cn_set, datR_im, datR_lst, tru_none, tru_bool, tru_int, tru_list, tru_tuple, trd_none, trd_bool, trd_int, trd_list, trd_tuple, len_list, len_tuple, len_dct, cv_int, cv_tup1, cv_tup2, cv_lst1, cv_lst2, slD_int, slD_tuple, slD_str, slD_list,
  isi_none, isi_bool, isi_int, isi_str, isi_tuple, isi_list, isTy, arg_im, arg_own, grd_true, get_0, get_s, var_eq, mov_eq, bor_eq, mut_eq, put_eq, fin_eq, lk_eq, un_eq, var_im, var_own, mov_im, mov_own, bor_im, bor_own, bor_bor, bor_chg, mut_own, mut_chg, put_own, put_chg, puts_nil, puts_cons, app_own, app_chg, isl_list, isd_dct, fin_nil, fin_im, fin_bor, fin_own, fin_chg, out_ret, out_nx, ob_nx, ob_ret, ob_brk, ob_cnt, ul_nx, ul_ret, bp_im, bp_own, bp_t, bps_nil, bps_cons, lk_nil, lk_im, lk_bor, lk_own, lk_chg, un_nil, un_own, un_chg, un_im, un_bor, nox_ok, if_true, if_false, Bool.false_eq_true, as_nil, as_e, as_bor, as_chg,
  As.muts, As.bors, Sc.locks, Rdo.locks, Pt.slots, Pt.slotss, wipeS, backS, bAdd, bSub, c_lt, c_le, c_gt, c_ge, c_eq, c_ne, c_eqs, augD, itemsE, itemsS, isN_none, isN_bool, isN_int, isN_str, isN_tuple, isN_list, opt_none, Bool.xor_false, Bool.false_xor, Bool.true_xor, Bool.xor_true,
  List.getElem?_cons_zero, List.getElem?_cons_succ, List.getElem?_nil, List.set_cons_zero, List.set_cons_succ, List.length_cons, List.length_nil, List.map_cons, List.map_nil, Bool.true_and, Bool.and_true, Bool.not_true, Bool.not_false, Bool.and_self, List.all_nil, List.all_cons, List.nodup_nil, List.nodup_cons, List.not_mem_nil, not_false_eq_true, and_true, List.contains_nil, List.contains_eq_mem, decide_true, decide_false, Option.getD_some, Option.getD_none], fun _ => by simp only [e_held_in_0, evSs, evS, evE, evT, evEs, evAs, evO, evC, evR, evSc, evScN, srcN, slotC, R.ok_bind, R.exc_bind, R.bad_bind, R.ok_out, R.exc_out, R.bad_out, setS, cn_im, cn_own, cn_bor, cn_chg, cn_lst, cn_dct, cn_set, datR_im, datR_lst, tru_none, tru_bool, tru_int, tru_list, tru_tuple, trd_none, trd_bool, trd_int, trd_list, trd_tuple, len_list, len_tuple, len_dct, cv_int, cv_tup1, cv_tup2, cv_lst1, cv_lst2, slD_int, slD_tuple, slD_str, slD_list,
  isi_none, isi_bool, isi_int, isi_str, isi_tuple, isi_list, isTy, arg_im, arg_own, grd_true, get_0, get_s, var_eq, mov_eq, bor_eq, mut_eq, put_eq, fin_eq, lk_eq, un_eq, var_im, var_own, mov_im, mov_own, bor_im, bor_own, bor_bor, bor_chg, mut_own, mut_chg, put_own, put_chg, puts_nil, puts_cons, app_own, app_chg, isl_list, isd_dct, fin_nil, fin_im, fin_bor, fin_own, fin_chg, out_ret, out_nx, ob_nx, ob_ret, ob_brk, ob_cnt, ul_nx, ul_ret, bp_im, bp_own, bp_t, bps_nil, bps_cons, lk_nil, lk_im, lk_bor, lk_own, lk_chg, un_nil, un_own, un_chg, un_im, un_bor, nox_ok, if_true, if_false, Bool.false_eq_true, as_nil, as_e, as_bor, as_chg,
  As.muts, As.bors, Sc.locks, Rdo.locks, Pt.slots, Pt.slotss, wipeS, backS, bAdd, bSub, c_lt, c_le, c_gt, c_ge, c_eq, c_ne, c_eqs, augD, itemsE, itemsS, isN_none, isN_bool, isN_int, isN_str, isN_tuple, isN_list, opt_none, Bool.xor_false, Bool.false_xor, Bool.true_xor, Bool.xor_true,
  List.getElem?_cons_zero, List.getElem?_cons_succ, List.getElem?_nil, List.set_cons_zero, List.set_cons_succ, List.length_cons, List.length_nil, List.map_cons, List.map_nil, Bool.true_and, Bool.and_true, Bool.not_true, Bool.not_false, Bool.and_self, List.all_nil, List.all_cons, List.nodup_nil, List.nodup_cons, List.not_mem_nil, not_false_eq_true, and_true, List.contains_nil, List.contains_eq_mem, decide_true, decide_false, Option.getD_some, Option.getD_none], rfl⟩)
  rw [opt_held] at lp
  have l1 : (rs.filterMap id).length ≤ lineN := by have := List.length_filterMap_le id rs; unfold lineN; omega
  simp (decide := true) only [evSs, evS, evE, evT, evEs, evAs, evO, evC, evR, evSc, evScN, srcN, slotC, R.ok_bind, R.exc_bind, R.bad_bind, R.ok_out, R.exc_out, R.bad_out, setS, cn_im, cn_own, cn_bor, cn_chg, cn_lst, cn_dct, cn_set, datR_im, datR_lst, tru_none, tru_bool, tru_int, tru_list, tru_tuple, trd_none, trd_bool, trd_int, trd_list, trd_tuple, len_list, len_tuple, len_dct, cv_int, cv_tup1, cv_tup2, cv_lst1, cv_lst2, slD_int, slD_tuple, slD_str, slD_list,
  isi_none, isi_bool, isi_int, isi_str, isi_tuple, isi_list, isTy, arg_im, arg_own, grd_true, get_0, get_s, var_eq, mov_eq, bor_eq, mut_eq, put_eq, fin_eq, lk_eq, un_eq, var_im, var_own, mov_im, mov_own, bor_im, bor_own, bor_bor, bor_chg, mut_own, mut_chg, put_own, put_chg, puts_nil, puts_cons, app_own, app_chg, isl_list, isd_dct, fin_nil, fin_im, fin_bor, fin_own, fin_chg, out_ret, out_nx, ob_nx, ob_ret, ob_brk, ob_cnt, ul_nx, ul_ret, bp_im, bp_own, bp_t, bps_nil, bps_cons, lk_nil, lk_im, lk_bor, lk_own, lk_chg, un_nil, un_own, un_chg, un_im, un_bor, nox_ok, if_true, if_false, Bool.false_eq_true, as_nil, as_e, as_bor, as_chg,
  As.muts, As.bors, Sc.locks, Rdo.locks, Pt.slots, Pt.slotss, wipeS, backS, bAdd, bSub, c_lt, c_le, c_gt, c_ge, c_eq, c_ne, c_eqs, augD, itemsE, itemsS, isN_none, isN_bool, isN_int, isN_str, isN_tuple, isN_list, opt_none, Bool.xor_false, Bool.false_xor, Bool.true_xor, Bool.xor_true,
  List.getElem?_cons_zero, List.getElem?_cons_succ, List.getElem?_nil, List.set_cons_zero, List.set_cons_succ, List.length_cons, List.length_nil, List.map_cons, List.map_nil, Bool.true_and, Bool.and_true, Bool.not_true, Bool.not_false, Bool.and_self, List.all_nil, List.all_cons, List.nodup_nil, List.nodup_cons, List.not_mem_nil, not_false_eq_true, and_true, List.contains_nil, List.contains_eq_mem, decide_true, decide_false, Option.getD_some, Option.getD_none, lp, List.length_map, l1]
theorem led_len {nums : List Int} {o : Ob} (ho : o.Ok nums) (got gone : List Int) : (o.led got gone).length ≤ 1000 := by
  cases o with
  | recd n fs => exact Nat.le_trans (List.length_filterMap_le ..) ho.2
  | weak n t =>
    show (match t with | some x => if x ∈ gone then [] else [x] | none => []).length ≤ 1000
    cases t with
    | none => simp
    | some x => simp only; split <;> simp
  | tab n es =>
    show ((es.filter _).map _).length ≤ 1000
    rw [List.length_map]
    exact Nat.le_trans (List.length_filter_le ..) ho.2.2
theorem led_to_ok {k : Nat} {nums gone : List Int} {f : List (Int × Int)} {o : Ob} {s : Sl} (ho : o.Ok nums) (hs : IntsP s gone) : C (k + 2) i_led_to [.im o.d, .bor (.dct (dctI f)), s] = .ok (.own (.lst ((o.led (keysI f) gone).map PyData.int)), []) := by
  have key : ∀ ρ, startS db_led_to.fd [.im o.d, .bor (.dct (dctI f)), s] = ρ → C (k + 1 + 1) i_led_to [.im o.d, .bor (.dct (dctI f)), s] = outCall [.im o.d, .bor (.dct (dctI f)), s] (evSs (C (k + 1)) 200 b_led_to ρ) := fun ρ h => call_unf (k := k + 1) (d := db_led_to) rfl rfl ρ h
  rw [key [some (.im o.d), some (.bor (.dct (dctI f))), some (s), none, none] rfl]
  unfold b_led_to
  have fin : ∀ ρ, finals ρ 0 [.im o.d, .bor (.dct (dctI f)), s] = .ok [] := fun ρ => by rw [fin_im, fin_bor, hs.fin, fin_nil]
  cases o with
  | recd n fs =>
    have h1 := held_in_ok (k := k) ho.2
    simp (decide := true) only [evSs, evS, evE, evT, evEs, evAs, evO, evC, evR, evSc, evScN, srcN, slotC, R.ok_bind, R.exc_bind, R.bad_bind, R.ok_out, R.exc_out, R.bad_out, setS, cn_im, cn_own, cn_bor, cn_chg, cn_lst, cn_dct, cn_set, datR_im, datR_lst, tru_none, tru_bool, tru_int, tru_list, tru_tuple, trd_none, trd_bool, trd_int, trd_list, trd_tuple, len_list, len_tuple, len_dct, cv_int, cv_tup1, cv_tup2, cv_lst1, cv_lst2, slD_int, slD_tuple, slD_str, slD_list,
  isi_none, isi_bool, isi_int, isi_str, isi_tuple, isi_list, isTy, arg_im, arg_own, grd_true, get_0, get_s, var_eq, mov_eq, bor_eq, mut_eq, put_eq, fin_eq, lk_eq, un_eq, var_im, var_own, mov_im, mov_own, bor_im, bor_own, bor_bor, bor_chg, mut_own, mut_chg, put_own, put_chg, puts_nil, puts_cons, app_own, app_chg, isl_list, isd_dct, fin_nil, fin_im, fin_bor, fin_own, fin_chg, out_ret, out_nx, ob_nx, ob_ret, ob_brk, ob_cnt, ul_nx, ul_ret, bp_im, bp_own, bp_t, bps_nil, bps_cons, lk_nil, lk_im, lk_bor, lk_own, lk_chg, un_nil, un_own, un_chg, un_im, un_bor, nox_ok, if_true, if_false, Bool.false_eq_true, as_nil, as_e, as_bor, as_chg,
  As.muts, As.bors, Sc.locks, Rdo.locks, Pt.slots, Pt.slotss, wipeS, backS, bAdd, bSub, c_lt, c_le, c_gt, c_ge, c_eq, c_ne, c_eqs, augD, itemsE, itemsS, isN_none, isN_bool, isN_int, isN_str, isN_tuple, isN_list, opt_none, Bool.xor_false, Bool.false_xor, Bool.true_xor, Bool.xor_true,
  List.getElem?_cons_zero, List.getElem?_cons_succ, List.getElem?_nil, List.set_cons_zero, List.set_cons_succ, List.length_cons, List.length_nil, List.map_cons, List.map_nil, Bool.true_and, Bool.and_true, Bool.not_true, Bool.not_false, Bool.and_self, List.all_nil, List.all_cons, List.nodup_nil, List.nodup_cons, List.not_mem_nil, not_false_eq_true, and_true, List.contains_nil, List.contains_eq_mem, decide_true, decide_false, Option.getD_some, Option.getD_none, ob_kind, Ob.kindS, recd_2, h1, fin]
    rfl
  | weak n t =>
    have e2 := @IntsP.mem s gone hs
    cases t with
    | none =>
      have w2 : idxD (.dat (Ob.weak n none).d) (.int 2) = .ok .none := rfl
      simp (decide := true) only [evSs, evS, evE, evT, evEs, evAs, evO, evC, evR, evSc, evScN, srcN, slotC, R.ok_bind, R.exc_bind, R.bad_bind, R.ok_out, R.exc_out, R.bad_out, setS, cn_im, cn_own, cn_bor, cn_chg, cn_lst, cn_dct, cn_set, datR_im, datR_lst, tru_none, tru_bool, tru_int, tru_list, tru_tuple, trd_none, trd_bool, trd_int, trd_list, trd_tuple, len_list, len_tuple, len_dct, cv_int, cv_tup1, cv_tup2, cv_lst1, cv_lst2, slD_int, slD_tuple, slD_str, slD_list,
  isi_none, isi_bool, isi_int, isi_str, isi_tuple, isi_list, isTy, arg_im, arg_own, grd_true, get_0, get_s, var_eq, mov_eq, bor_eq, mut_eq, put_eq, fin_eq, lk_eq, un_eq, var_im, var_own, mov_im, mov_own, bor_im, bor_own, bor_bor, bor_chg, mut_own, mut_chg, put_own, put_chg, puts_nil, puts_cons, app_own, app_chg, isl_list, isd_dct, fin_nil, fin_im, fin_bor, fin_own, fin_chg, out_ret, out_nx, ob_nx, ob_ret, ob_brk, ob_cnt, ul_nx, ul_ret, bp_im, bp_own, bp_t, bps_nil, bps_cons, lk_nil, lk_im, lk_bor, lk_own, lk_chg, un_nil, un_own, un_chg, un_im, un_bor, nox_ok, if_true, if_false, Bool.false_eq_true, as_nil, as_e, as_bor, as_chg,
  As.muts, As.bors, Sc.locks, Rdo.locks, Pt.slots, Pt.slotss, wipeS, backS, bAdd, bSub, c_lt, c_le, c_gt, c_ge, c_eq, c_ne, c_eqs, augD, itemsE, itemsS, isN_none, isN_bool, isN_int, isN_str, isN_tuple, isN_list, opt_none, Bool.xor_false, Bool.false_xor, Bool.true_xor, Bool.xor_true,
  List.getElem?_cons_zero, List.getElem?_cons_succ, List.getElem?_nil, List.set_cons_zero, List.set_cons_succ, List.length_cons, List.length_nil, List.map_cons, List.map_nil, Bool.true_and, Bool.and_true, Bool.not_true, Bool.not_false, Bool.and_self, List.all_nil, List.all_cons, List.nodup_nil, List.nodup_cons, List.not_mem_nil, not_false_eq_true, and_true, List.contains_nil, List.contains_eq_mem, decide_true, decide_false, Option.getD_some, Option.getD_none, ob_kind, Ob.kindS, w2, fin]
      rfl
    | some x =>
      have w2 : idxD (.dat (Ob.weak n (some x)).d) (.int 2) = .ok (.int x) := rfl
      by_cases hx : x ∈ gone
      · have e : (Ob.weak n (some x)).led (keysI f) gone = [] := if_pos hx
        rw [e]
        simp (decide := true) only [evSs, evS, evE, evT, evEs, evAs, evO, evC, evR, evSc, evScN, srcN, slotC, R.ok_bind, R.exc_bind, R.bad_bind, R.ok_out, R.exc_out, R.bad_out, setS, cn_im, cn_own, cn_bor, cn_chg, cn_lst, cn_dct, cn_set, datR_im, datR_lst, tru_none, tru_bool, tru_int, tru_list, tru_tuple, trd_none, trd_bool, trd_int, trd_list, trd_tuple, len_list, len_tuple, len_dct, cv_int, cv_tup1, cv_tup2, cv_lst1, cv_lst2, slD_int, slD_tuple, slD_str, slD_list,
  isi_none, isi_bool, isi_int, isi_str, isi_tuple, isi_list, isTy, arg_im, arg_own, grd_true, get_0, get_s, var_eq, mov_eq, bor_eq, mut_eq, put_eq, fin_eq, lk_eq, un_eq, var_im, var_own, mov_im, mov_own, bor_im, bor_own, bor_bor, bor_chg, mut_own, mut_chg, put_own, put_chg, puts_nil, puts_cons, app_own, app_chg, isl_list, isd_dct, fin_nil, fin_im, fin_bor, fin_own, fin_chg, out_ret, out_nx, ob_nx, ob_ret, ob_brk, ob_cnt, ul_nx, ul_ret, bp_im, bp_own, bp_t, bps_nil, bps_cons, lk_nil, lk_im, lk_bor, lk_own, lk_chg, un_nil, un_own, un_chg, un_im, un_bor, nox_ok, if_true, if_false, Bool.false_eq_true, as_nil, as_e, as_bor, as_chg,
  As.muts, As.bors, Sc.locks, Rdo.locks, Pt.slots, Pt.slotss, wipeS, backS, bAdd, bSub, c_lt, c_le, c_gt, c_ge, c_eq, c_ne, c_eqs, augD, itemsE, itemsS, isN_none, isN_bool, isN_int, isN_str, isN_tuple, isN_list, opt_none, Bool.xor_false, Bool.false_xor, Bool.true_xor, Bool.xor_true,
  List.getElem?_cons_zero, List.getElem?_cons_succ, List.getElem?_nil, List.set_cons_zero, List.set_cons_succ, List.length_cons, List.length_nil, List.map_cons, List.map_nil, Bool.true_and, Bool.and_true, Bool.not_true, Bool.not_false, Bool.and_self, List.all_nil, List.all_cons, List.nodup_nil, List.nodup_cons, List.not_mem_nil, not_false_eq_true, and_true, List.contains_nil, List.contains_eq_mem, decide_true, decide_false, Option.getD_some, Option.getD_none, ob_kind, Ob.kindS, w2, e2, hx, fin]
      · have e : (Ob.weak n (some x)).led (keysI f) gone = [x] := if_neg hx
        rw [e]
        simp (decide := true) only [evSs, evS, evE, evT, evEs, evAs, evO, evC, evR, evSc, evScN, srcN, slotC, R.ok_bind, R.exc_bind, R.bad_bind, R.ok_out, R.exc_out, R.bad_out, setS, cn_im, cn_own, cn_bor, cn_chg, cn_lst, cn_dct, cn_set, datR_im, datR_lst, tru_none, tru_bool, tru_int, tru_list, tru_tuple, trd_none, trd_bool, trd_int, trd_list, trd_tuple, len_list, len_tuple, len_dct, cv_int, cv_tup1, cv_tup2, cv_lst1, cv_lst2, slD_int, slD_tuple, slD_str, slD_list,
  isi_none, isi_bool, isi_int, isi_str, isi_tuple, isi_list, isTy, arg_im, arg_own, grd_true, get_0, get_s, var_eq, mov_eq, bor_eq, mut_eq, put_eq, fin_eq, lk_eq, un_eq, var_im, var_own, mov_im, mov_own, bor_im, bor_own, bor_bor, bor_chg, mut_own, mut_chg, put_own, put_chg, puts_nil, puts_cons, app_own, app_chg, isl_list, isd_dct, fin_nil, fin_im, fin_bor, fin_own, fin_chg, out_ret, out_nx, ob_nx, ob_ret, ob_brk, ob_cnt, ul_nx, ul_ret, bp_im, bp_own, bp_t, bps_nil, bps_cons, lk_nil, lk_im, lk_bor, lk_own, lk_chg, un_nil, un_own, un_chg, un_im, un_bor, nox_ok, if_true, if_false, Bool.false_eq_true, as_nil, as_e, as_bor, as_chg,
  As.muts, As.bors, Sc.locks, Rdo.locks, Pt.slots, Pt.slotss, wipeS, backS, bAdd, bSub, c_lt, c_le, c_gt, c_ge, c_eq, c_ne, c_eqs, augD, itemsE, itemsS, isN_none, isN_bool, isN_int, isN_str, isN_tuple, isN_list, opt_none, Bool.xor_false, Bool.false_xor, Bool.true_xor, Bool.xor_true,
  List.getElem?_cons_zero, List.getElem?_cons_succ, List.getElem?_nil, List.set_cons_zero, List.set_cons_succ, List.length_cons, List.length_nil, List.map_cons, List.map_nil, Bool.true_and, Bool.and_true, Bool.not_true, Bool.not_false, Bool.and_self, List.all_nil, List.all_cons, List.nodup_nil, List.nodup_cons, List.not_mem_nil, not_false_eq_true, and_true, List.contains_nil, List.contains_eq_mem, decide_true, decide_false, Option.getD_some, Option.getD_none, ob_kind, Ob.kindS, w2, e2, hx, fin]
  | tab n es =>
    have lp := fun n' => loopC_g (p := .t [.v 3, .v 4]) (own := [3, 4]) (ρ := [some (.im (Ob.tab n es).d), some (.bor (.dct (dctI f))), some s, none, none]) (c := evC n' c_led_to_1) (f := fun ρ => datR (evE n' e_led_to_0 ρ)) entD (fun e => [some (.im (Ob.tab n es).d), some (.bor (.dct (dctI f))), some s, some (.im (.int e.1)), some (.im (.int e.2))]) (fun e => decide (e.1 ∈ keysI f)) (fun e => PyData.int e.2) es
      (fun e _ => ⟨by simp only [entD, evSs, evS, evE, evT, evEs, evAs, evO, evC, evR, evSc, evScN, srcN, slotC, R.ok_bind, R.exc_bind, R.bad_bind, R.ok_out, R.exc_out, R.bad_out, setS, cn_im, cn_own, cn_bor, cn_chg, cn_lst, cn_dct, cn_set, datR_im, datR_lst, tru_none, tru_bool, tru_int, tru_list, tru_tuple, trd_none, trd_bool, trd_int, trd_list, trd_tuple, len_list, len_tuple, len_dct, cv_int, cv_tup1, cv_tup2, cv_lst1, cv_lst2, slD_int, slD_tuple, slD_str, slD_list,
  isi_none, isi_bool, isi_int, isi_str, isi_tuple, isi_list, isTy, arg_im, arg_own, grd_true, get_0, get_s, var_eq, mov_eq, bor_eq, mut_eq, put_eq, fin_eq, lk_eq, un_eq, var_im, var_own, mov_im, mov_own, bor_im, bor_own, bor_bor, bor_chg, mut_own, mut_chg, put_own, put_chg, puts_nil, puts_cons, app_own, app_chg, isl_list, isd_dct, fin_nil, fin_im, fin_bor, fin_own, fin_chg, out_ret, out_nx, ob_nx, ob_ret, ob_brk, ob_cnt, ul_nx, ul_ret, bp_im, bp_own, bp_t, bps_nil, bps_cons, lk_nil, lk_im, lk_bor, lk_own, lk_chg, un_nil, un_own, un_chg, un_im, un_bor, nox_ok, if_true, if_false, Bool.false_eq_true, as_nil, as_e, as_bor, as_chg,
  As.muts, As.bors, Sc.locks, Rdo.locks, Pt.slots, Pt.slotss, wipeS, backS, bAdd, bSub, c_lt, c_le, c_gt, c_ge, c_eq, c_ne, c_eqs, augD, itemsE, itemsS, isN_none, isN_bool, isN_int, isN_str, isN_tuple, isN_list, opt_none, Bool.xor_false, Bool.false_xor, Bool.true_xor, Bool.xor_true,
  List.getElem?_cons_zero, List.getElem?_cons_succ, List.getElem?_nil, List.set_cons_zero, List.set_cons_succ, List.length_cons, List.length_nil, List.map_cons, List.map_nil, Bool.true_and, Bool.and_true, Bool.not_true, Bool.not_false, Bool.and_self, List.all_nil, List.all_cons, List.nodup_nil, List.nodup_cons, List.not_mem_nil, not_false_eq_true, and_true, List.contains_nil, List.contains_eq_mem, decide_true, decide_false, Option.getD_some, Option.getD_none], by simp only [c_led_to_1, evSs, evS, evE, evT, evEs, evAs, evO, evC, evR, evSc, evScN, srcN, slotC, R.ok_bind, R.exc_bind, R.bad_bind, R.ok_out, R.exc_out, R.bad_out, setS, cn_im, cn_own, cn_bor, cn_chg, cn_lst, cn_dct, cn_set, datR_im, datR_lst, tru_none, tru_bool, tru_int, tru_list, tru_tuple, trd_none, trd_bool, trd_int, trd_list, trd_tuple, len_list, len_tuple, len_dct, cv_int, cv_tup1, cv_tup2, cv_lst1, cv_lst2, slD_int, slD_tuple, slD_str, slD_list,
  isi_none, isi_bool, isi_int, isi_str, isi_tuple, isi_list, isTy, arg_im, arg_own, grd_true, get_0, get_s, var_eq, mov_eq, bor_eq, mut_eq, put_eq, fin_eq, lk_eq, un_eq, var_im, var_own, mov_im, mov_own, bor_im, bor_own, bor_bor, bor_chg, mut_own, mut_chg, put_own, put_chg, puts_nil, puts_cons, app_own, app_chg, isl_list, isd_dct, fin_nil, fin_im, fin_bor, fin_own, fin_chg, out_ret, out_nx, ob_nx, ob_ret, ob_brk, ob_cnt, ul_nx, ul_ret, bp_im, bp_own, bp_t, bps_nil, bps_cons, lk_nil, lk_im, lk_bor, lk_own, lk_chg, un_nil, un_own, un_chg, un_im, un_bor, nox_ok, if_true, if_false, Bool.false_eq_true, as_nil, as_e, as_bor, as_chg,
  As.muts, As.bors, Sc.locks, Rdo.locks, Pt.slots, Pt.slotss, wipeS, backS, bAdd, bSub, c_lt, c_le, c_gt, c_ge, c_eq, c_ne, c_eqs, augD, itemsE, itemsS, isN_none, isN_bool, isN_int, isN_str, isN_tuple, isN_list, opt_none, Bool.xor_false, Bool.false_xor, Bool.true_xor, Bool.xor_true,
  List.getElem?_cons_zero, List.getElem?_cons_succ, List.getElem?_nil, List.set_cons_zero, List.set_cons_succ, List.length_cons, List.length_nil, List.map_cons, List.map_nil, Bool.true_and, Bool.and_true, Bool.not_true, Bool.not_false, Bool.and_self, List.all_nil, List.all_cons, List.nodup_nil, List.nodup_cons, List.not_mem_nil, not_false_eq_true, and_true, List.contains_nil, List.contains_eq_mem, decide_true, decide_false, Option.getD_some, Option.getD_none, mem_dctI], fun _ => by simp only [e_led_to_0, evSs, evS, evE, evT, evEs, evAs, evO, evC, evR, evSc, evScN, srcN, slotC, R.ok_bind, R.exc_bind, R.bad_bind, R.ok_out, R.exc_out, R.bad_out, setS, cn_im, cn_own, cn_bor, cn_chg, cn_lst, cn_dct, cn_set, datR_im, datR_lst, tru_none, tru_bool, tru_int, tru_list, tru_tuple, trd_none, trd_bool, trd_int, trd_list, trd_tuple, len_list, len_tuple, len_dct, cv_int, cv_tup1, cv_tup2, cv_lst1, cv_lst2, slD_int, slD_tuple, slD_str, slD_list,
  isi_none, isi_bool, isi_int, isi_str, isi_tuple, isi_list, isTy, arg_im, arg_own, grd_true, get_0, get_s, var_eq, mov_eq, bor_eq, mut_eq, put_eq, fin_eq, lk_eq, un_eq, var_im, var_own, mov_im, mov_own, bor_im, bor_own, bor_bor, bor_chg, mut_own, mut_chg, put_own, put_chg, puts_nil, puts_cons, app_own, app_chg, isl_list, isd_dct, fin_nil, fin_im, fin_bor, fin_own, fin_chg, out_ret, out_nx, ob_nx, ob_ret, ob_brk, ob_cnt, ul_nx, ul_ret, bp_im, bp_own, bp_t, bps_nil, bps_cons, lk_nil, lk_im, lk_bor, lk_own, lk_chg, un_nil, un_own, un_chg, un_im, un_bor, nox_ok, if_true, if_false, Bool.false_eq_true, as_nil, as_e, as_bor, as_chg,
  As.muts, As.bors, Sc.locks, Rdo.locks, Pt.slots, Pt.slotss, wipeS, backS, bAdd, bSub, c_lt, c_le, c_gt, c_ge, c_eq, c_ne, c_eqs, augD, itemsE, itemsS, isN_none, isN_bool, isN_int, isN_str, isN_tuple, isN_list, opt_none, Bool.xor_false, Bool.false_xor, Bool.true_xor, Bool.xor_true,
  List.getElem?_cons_zero, List.getElem?_cons_succ, List.getElem?_nil, List.set_cons_zero, List.set_cons_succ, List.length_cons, List.length_nil, List.map_cons, List.map_nil, Bool.true_and, Bool.and_true, Bool.not_true, Bool.not_false, Bool.and_self, List.all_nil, List.all_cons, List.nodup_nil, List.nodup_cons, List.not_mem_nil, not_false_eq_true, and_true, List.contains_nil, List.contains_eq_mem, decide_true, decide_false, Option.getD_some, Option.getD_none], rfl⟩)
    have l1 : (es.filter fun e => decide (e.1 ∈ keysI f)).length ≤ lineN := by have := List.length_filter_le (fun e : Int × Int => decide (e.1 ∈ keysI f)) es; have := ho.2.2; unfold lineN; omega
    simp (decide := true) only [evSs, evS, evE, evT, evEs, evAs, evO, evC, evR, evSc, evScN, srcN, slotC, R.ok_bind, R.exc_bind, R.bad_bind, R.ok_out, R.exc_out, R.bad_out, setS, cn_im, cn_own, cn_bor, cn_chg, cn_lst, cn_dct, cn_set, datR_im, datR_lst, tru_none, tru_bool, tru_int, tru_list, tru_tuple, trd_none, trd_bool, trd_int, trd_list, trd_tuple, len_list, len_tuple, len_dct, cv_int, cv_tup1, cv_tup2, cv_lst1, cv_lst2, slD_int, slD_tuple, slD_str, slD_list,
  isi_none, isi_bool, isi_int, isi_str, isi_tuple, isi_list, isTy, arg_im, arg_own, grd_true, get_0, get_s, var_eq, mov_eq, bor_eq, mut_eq, put_eq, fin_eq, lk_eq, un_eq, var_im, var_own, mov_im, mov_own, bor_im, bor_own, bor_bor, bor_chg, mut_own, mut_chg, put_own, put_chg, puts_nil, puts_cons, app_own, app_chg, isl_list, isd_dct, fin_nil, fin_im, fin_bor, fin_own, fin_chg, out_ret, out_nx, ob_nx, ob_ret, ob_brk, ob_cnt, ul_nx, ul_ret, bp_im, bp_own, bp_t, bps_nil, bps_cons, lk_nil, lk_im, lk_bor, lk_own, lk_chg, un_nil, un_own, un_chg, un_im, un_bor, nox_ok, if_true, if_false, Bool.false_eq_true, as_nil, as_e, as_bor, as_chg,
  As.muts, As.bors, Sc.locks, Rdo.locks, Pt.slots, Pt.slotss, wipeS, backS, bAdd, bSub, c_lt, c_le, c_gt, c_ge, c_eq, c_ne, c_eqs, augD, itemsE, itemsS, isN_none, isN_bool, isN_int, isN_str, isN_tuple, isN_list, opt_none, Bool.xor_false, Bool.false_xor, Bool.true_xor, Bool.xor_true,
  List.getElem?_cons_zero, List.getElem?_cons_succ, List.getElem?_nil, List.set_cons_zero, List.set_cons_succ, List.length_cons, List.length_nil, List.map_cons, List.map_nil, Bool.true_and, Bool.and_true, Bool.not_true, Bool.not_false, Bool.and_self, List.all_nil, List.all_cons, List.nodup_nil, List.nodup_cons, List.not_mem_nil, not_false_eq_true, and_true, List.contains_nil, List.contains_eq_mem, decide_true, decide_false, Option.getD_some, Option.getD_none, ob_kind, Ob.kindS, tab_2, lp, List.length_map, l1, fin]
    show _ = R.ok (Sl.own (.lst (((es.filter fun e => decide (e.1 ∈ keysI f)).map (·.2)).map PyData.int)), [])
    rw [List.map_map]
    rfl
end K23

set_option Elab.async false
set_option linter.all false
set_option maxRecDepth 100000
set_option maxHeartbeats 0
namespace K23
open PySem PySem.Spec L2 Wk
theorem more_len {h : Hx} (hk : h.Ok) {gone : List Int} {f : List (Int × Int)} (i : RInv h gone f) : (moreN h gone f).length ≤ 100000 := by
  have hl : (keysI f).length ≤ 100 := Nat.le_trans (nodup_len i.nd fun x hx => (i.get x hx).nums hk) hk.few
  have gen : ∀ (ks : List Int), (∀ x ∈ ks, x ∈ h.nums) → (ks.flatMap fun k => ((h.ob k).led (keysI f) gone).filter fun x => decide (x ∉ keysI f)).length ≤ 1000 * ks.length := by
    intro ks
    induction ks with
    | nil => intro _; exact Nat.zero_le _
    | cons x ks ih =>
      intro hx
      have a := ih fun y hy => hx y (List.mem_cons_of_mem _ hy)
      have b := led_len (hk.obs _ (Hx.ob_num (hx x List.mem_cons_self)).1) (keysI f) gone
      have c := List.length_filter_le (fun x => decide (x ∉ keysI f)) ((h.ob x).led (keysI f) gone)
      rw [List.flatMap_cons, List.length_append, List.length_cons]
      omega
  have := gen (keysI f) fun x hx => (i.get x hx).nums hk
  unfold moreN
  omega
theorem more_map {h : Hx} {gone : List Int} {f : List (Int × Int)} : ((keysI f).flatMap fun x => (((h.ob x).led (keysI f) gone).filter fun y => !decide (y ∈ keysI f)).map PyData.int) = (moreN h gone f).map PyData.int := by
  unfold moreN
  rw [List.map_flatMap]
  have e : (fun y => !decide (y ∈ keysI f)) = fun y => decide (y ∉ keysI f) := by funext y; rw [decide_not]
  rw [e]
section
variable {k : Nat} {h : Hx} (hk : h.Ok) {gone : List Int} {s : Sl} (hs : IntsP s gone)
include hk hs
theorem turn_more {t : Int} {f : List (Int × Int)} {x5 x6 : Option Sl} (i : RInv h gone f) (Z : Ss) :
    evSs (C (k + 2)) 200 (.cons (.asg (.v 5) (.lc2 e_rounds_2 (.v 7) (.it (.s 3)) .no (.v 6) (.it (.e (.call i_led_to (.e (.idx (.s 2) (.var 7)) (.bor 3 (.bor 1 .nil)))))) c_rounds_3 [7, 6])) Z)
      [some (.im h.d), some s, some (.own (.dct (dctO h.objs))), some (.own (.dct (dctI f))), some (.im (.int t)), x5, x6, none] =
    evSs (C (k + 2)) 200 Z [some (.im h.d), some s, some (.own (.dct (dctO h.objs))), some (.own (.dct (dctI f))), some (.im (.int t)), some (.own (.lst ((moreN h gone f).map PyData.int))), x6, none] := by
  have lp := loopCC_g (p := .v 7) (own := [7, 6]) (ρ := [some (.im h.d), some s, some (.own (.dct (dctO h.objs))), some (.bor (.dct (dctI f))), some (.im (.int t)), x5, none, none]) (c := evC (C (k + 2)) .no)
    (f := fun ρ => srcN (.it (.e (.call i_led_to (.e (.idx (.s 2) (.var 7)) (.bor 3 (.bor 1 .nil)))))) (evSc (C (k + 2)) (.it (.e (.call i_led_to (.e (.idx (.s 2) (.var 7)) (.bor 3 (.bor 1 .nil)))))) ρ) ρ >>= fun r2 =>
        loopC (.v 6) (evC (C (k + 2)) c_rounds_3) (fun ρ => datR (evE (C (k + 2)) e_rounds_2 ρ)) (Pt.v 6).slots r2.1 (wipeS (lockS r2.2 (Sc.it (.e (.call i_led_to (.e (.idx (.s 2) (.var 7)) (.bor 3 (.bor 1 .nil)))))).locks) (Pt.v 6).slots) >>= fun q => .ok (q.1, unlock (backS q.2 (lockS r2.2 (Sc.it (.e (.call i_led_to (.e (.idx (.s 2) (.var 7)) (.bor 3 (.bor 1 .nil)))))).locks) (Pt.v 6).slots) r2.2 (Sc.it (.e (.call i_led_to (.e (.idx (.s 2) (.var 7)) (.bor 3 (.bor 1 .nil)))))).locks))
    PyData.int (fun x => [some (.im h.d), some s, some (.own (.dct (dctO h.objs))), some (.bor (.dct (dctI f))), some (.im (.int t)), x5, none, some (.im (.int x))]) (fun _ => true) (fun x => (((h.ob x).led (keysI f) gone).filter fun y => !decide (y ∈ keysI f)).map PyData.int) (keysI f)
    (fun x hx => ⟨bp_im, evC_no, fun _ => by
      have hx2 : x ∈ h.nums := (i.get x hx).nums hk
      have lt := led_to_ok (k := k) (f := f) (hk.obs _ (Hx.ob_num hx2).1) hs
      have ix : idxD (.dct (dctO h.objs)) (.int x) = .ok (h.ob x).d := idxK rfl (look_ob hx2)
      have l2 := loopC_g (p := .v 6) (own := [6]) (ρ := [some (.im h.d), some s, some (.own (.dct (dctO h.objs))), some (.bor (.dct (dctI f))), some (.im (.int t)), x5, none, some (.im (.int x))]) (c := evC (C (k + 2)) c_rounds_3) (f := fun ρ => datR (evE (C (k + 2)) e_rounds_2 ρ)) PyData.int (fun y => [some (.im h.d), some s, some (.own (.dct (dctO h.objs))), some (.bor (.dct (dctI f))), some (.im (.int t)), x5, some (.im (.int y)), some (.im (.int x))]) (fun y => !decide (y ∈ keysI f)) PyData.int ((h.ob x).led (keysI f) gone)
        (fun y _ => ⟨bp_im, by simp only [c_rounds_3, evSs, evS, evE, evT, evEs, evAs, evO, evC, evR, evSc, evScN, srcN, slotC, R.ok_bind, R.exc_bind, R.bad_bind, R.ok_out, R.exc_out, R.bad_out, setS, cn_im, cn_own, cn_bor, cn_chg, cn_lst, cn_dct, cn_set, datR_im, datR_lst, tru_none, tru_bool, tru_int, tru_list, tru_tuple, trd_none, trd_bool, trd_int, trd_list, trd_tuple, len_list, len_tuple, len_dct, cv_int, cv_tup1, cv_tup2, cv_lst1, cv_lst2, slD_int, slD_tuple, slD_str, slD_list,
  isi_none, isi_bool, isi_int, isi_str, isi_tuple, isi_list, isTy, arg_im, arg_own, grd_true, get_0, get_s, var_eq, mov_eq, bor_eq, mut_eq, put_eq, fin_eq, lk_eq, un_eq, var_im, var_own, mov_im, mov_own, bor_im, bor_own, bor_bor, bor_chg, mut_own, mut_chg, put_own, put_chg, puts_nil, puts_cons, app_own, app_chg, isl_list, isd_dct, fin_nil, fin_im, fin_bor, fin_own, fin_chg, out_ret, out_nx, ob_nx, ob_ret, ob_brk, ob_cnt, ul_nx, ul_ret, bp_im, bp_own, bp_t, bps_nil, bps_cons, lk_nil, lk_im, lk_bor, lk_own, lk_chg, un_nil, un_own, un_chg, un_im, un_bor, nox_ok, if_true, if_false, Bool.false_eq_true, as_nil, as_e, as_bor, as_chg,
  As.muts, As.bors, Sc.locks, Rdo.locks, Pt.slots, Pt.slotss, wipeS, backS, bAdd, bSub, c_lt, c_le, c_gt, c_ge, c_eq, c_ne, c_eqs, augD, itemsE, itemsS, isN_none, isN_bool, isN_int, isN_str, isN_tuple, isN_list, opt_none, Bool.xor_false, Bool.false_xor, Bool.true_xor, Bool.xor_true,
  List.getElem?_cons_zero, List.getElem?_cons_succ, List.getElem?_nil, List.set_cons_zero, List.set_cons_succ, List.length_cons, List.length_nil, List.map_cons, List.map_nil, Bool.true_and, Bool.and_true, Bool.not_true, Bool.not_false, Bool.and_self, List.all_nil, List.all_cons, List.nodup_nil, List.nodup_cons, List.not_mem_nil, not_false_eq_true, and_true, List.contains_nil, List.contains_eq_mem, decide_true, decide_false, Option.getD_some, Option.getD_none, mem_dctI], fun _ => by simp only [e_rounds_2, evSs, evS, evE, evT, evEs, evAs, evO, evC, evR, evSc, evScN, srcN, slotC, R.ok_bind, R.exc_bind, R.bad_bind, R.ok_out, R.exc_out, R.bad_out, setS, cn_im, cn_own, cn_bor, cn_chg, cn_lst, cn_dct, cn_set, datR_im, datR_lst, tru_none, tru_bool, tru_int, tru_list, tru_tuple, trd_none, trd_bool, trd_int, trd_list, trd_tuple, len_list, len_tuple, len_dct, cv_int, cv_tup1, cv_tup2, cv_lst1, cv_lst2, slD_int, slD_tuple, slD_str, slD_list,
  isi_none, isi_bool, isi_int, isi_str, isi_tuple, isi_list, isTy, arg_im, arg_own, grd_true, get_0, get_s, var_eq, mov_eq, bor_eq, mut_eq, put_eq, fin_eq, lk_eq, un_eq, var_im, var_own, mov_im, mov_own, bor_im, bor_own, bor_bor, bor_chg, mut_own, mut_chg, put_own, put_chg, puts_nil, puts_cons, app_own, app_chg, isl_list, isd_dct, fin_nil, fin_im, fin_bor, fin_own, fin_chg, out_ret, out_nx, ob_nx, ob_ret, ob_brk, ob_cnt, ul_nx, ul_ret, bp_im, bp_own, bp_t, bps_nil, bps_cons, lk_nil, lk_im, lk_bor, lk_own, lk_chg, un_nil, un_own, un_chg, un_im, un_bor, nox_ok, if_true, if_false, Bool.false_eq_true, as_nil, as_e, as_bor, as_chg,
  As.muts, As.bors, Sc.locks, Rdo.locks, Pt.slots, Pt.slotss, wipeS, backS, bAdd, bSub, c_lt, c_le, c_gt, c_ge, c_eq, c_ne, c_eqs, augD, itemsE, itemsS, isN_none, isN_bool, isN_int, isN_str, isN_tuple, isN_list, opt_none, Bool.xor_false, Bool.false_xor, Bool.true_xor, Bool.xor_true,
  List.getElem?_cons_zero, List.getElem?_cons_succ, List.getElem?_nil, List.set_cons_zero, List.set_cons_succ, List.length_cons, List.length_nil, List.map_cons, List.map_nil, Bool.true_and, Bool.and_true, Bool.not_true, Bool.not_false, Bool.and_self, List.all_nil, List.all_cons, List.nodup_nil, List.nodup_cons, List.not_mem_nil, not_false_eq_true, and_true, List.contains_nil, List.contains_eq_mem, decide_true, decide_false, Option.getD_some, Option.getD_none], rfl⟩)
      simp only [evSs, evS, evE, evT, evEs, evAs, evO, evC, evR, evSc, evScN, srcN, slotC, R.ok_bind, R.exc_bind, R.bad_bind, R.ok_out, R.exc_out, R.bad_out, setS, cn_im, cn_own, cn_bor, cn_chg, cn_lst, cn_dct, cn_set, datR_im, datR_lst, tru_none, tru_bool, tru_int, tru_list, tru_tuple, trd_none, trd_bool, trd_int, trd_list, trd_tuple, len_list, len_tuple, len_dct, cv_int, cv_tup1, cv_tup2, cv_lst1, cv_lst2, slD_int, slD_tuple, slD_str, slD_list,
  isi_none, isi_bool, isi_int, isi_str, isi_tuple, isi_list, isTy, arg_im, arg_own, grd_true, get_0, get_s, var_eq, mov_eq, bor_eq, mut_eq, put_eq, fin_eq, lk_eq, un_eq, var_im, var_own, mov_im, mov_own, bor_im, bor_own, bor_bor, bor_chg, mut_own, mut_chg, put_own, put_chg, puts_nil, puts_cons, app_own, app_chg, isl_list, isd_dct, fin_nil, fin_im, fin_bor, fin_own, fin_chg, out_ret, out_nx, ob_nx, ob_ret, ob_brk, ob_cnt, ul_nx, ul_ret, bp_im, bp_own, bp_t, bps_nil, bps_cons, lk_nil, lk_im, lk_bor, lk_own, lk_chg, un_nil, un_own, un_chg, un_im, un_bor, nox_ok, if_true, if_false, Bool.false_eq_true, as_nil, as_e, as_bor, as_chg,
  As.muts, As.bors, Sc.locks, Rdo.locks, Pt.slots, Pt.slotss, wipeS, backS, bAdd, bSub, c_lt, c_le, c_gt, c_ge, c_eq, c_ne, c_eqs, augD, itemsE, itemsS, isN_none, isN_bool, isN_int, isN_str, isN_tuple, isN_list, opt_none, Bool.xor_false, Bool.false_xor, Bool.true_xor, Bool.xor_true,
  List.getElem?_cons_zero, List.getElem?_cons_succ, List.getElem?_nil, List.set_cons_zero, List.set_cons_succ, List.length_cons, List.length_nil, List.map_cons, List.map_nil, Bool.true_and, Bool.and_true, Bool.not_true, Bool.not_false, Bool.and_self, List.all_nil, List.all_cons, List.nodup_nil, List.nodup_cons, List.not_mem_nil, not_false_eq_true, and_true, List.contains_nil, List.contains_eq_mem, decide_true, decide_false, Option.getD_some, Option.getD_none, ix, lt, l2, hs.bor], rfl⟩)
  rw [filter_all, more_map] at lp
  have l1 : (moreN h gone f).length ≤ lineN := by have := more_len hk i; unfold lineN; omega
  have s1 : evSc (C (k + 2)) (.it (.s 3)) [some (.im h.d), some s, some (.own (.dct (dctO h.objs))), some (.own (.dct (dctI f))), some (.im (.int t)), x5, x6, none] = .ok ((keysI f).map PyData.int, [some (.im h.d), some s, some (.own (.dct (dctO h.objs))), some (.own (.dct (dctI f))), some (.im (.int t)), x5, x6, none]) := by simp only [evSs, evS, evE, evT, evEs, evAs, evO, evC, evR, evSc, evScN, srcN, slotC, R.ok_bind, R.exc_bind, R.bad_bind, R.ok_out, R.exc_out, R.bad_out, setS, cn_im, cn_own, cn_bor, cn_chg, cn_lst, cn_dct, cn_set, datR_im, datR_lst, tru_none, tru_bool, tru_int, tru_list, tru_tuple, trd_none, trd_bool, trd_int, trd_list, trd_tuple, len_list, len_tuple, len_dct, cv_int, cv_tup1, cv_tup2, cv_lst1, cv_lst2, slD_int, slD_tuple, slD_str, slD_list,
  isi_none, isi_bool, isi_int, isi_str, isi_tuple, isi_list, isTy, arg_im, arg_own, grd_true, get_0, get_s, var_eq, mov_eq, bor_eq, mut_eq, put_eq, fin_eq, lk_eq, un_eq, var_im, var_own, mov_im, mov_own, bor_im, bor_own, bor_bor, bor_chg, mut_own, mut_chg, put_own, put_chg, puts_nil, puts_cons, app_own, app_chg, isl_list, isd_dct, fin_nil, fin_im, fin_bor, fin_own, fin_chg, out_ret, out_nx, ob_nx, ob_ret, ob_brk, ob_cnt, ul_nx, ul_ret, bp_im, bp_own, bp_t, bps_nil, bps_cons, lk_nil, lk_im, lk_bor, lk_own, lk_chg, un_nil, un_own, un_chg, un_im, un_bor, nox_ok, if_true, if_false, Bool.false_eq_true, as_nil, as_e, as_bor, as_chg,
  As.muts, As.bors, Sc.locks, Rdo.locks, Pt.slots, Pt.slotss, wipeS, backS, bAdd, bSub, c_lt, c_le, c_gt, c_ge, c_eq, c_ne, c_eqs, augD, itemsE, itemsS, isN_none, isN_bool, isN_int, isN_str, isN_tuple, isN_list, opt_none, Bool.xor_false, Bool.false_xor, Bool.true_xor, Bool.xor_true,
  List.getElem?_cons_zero, List.getElem?_cons_succ, List.getElem?_nil, List.set_cons_zero, List.set_cons_succ, List.length_cons, List.length_nil, List.map_cons, List.map_nil, Bool.true_and, Bool.and_true, Bool.not_true, Bool.not_false, Bool.and_self, List.all_nil, List.all_cons, List.nodup_nil, List.nodup_cons, List.not_mem_nil, not_false_eq_true, and_true, List.contains_nil, List.contains_eq_mem, decide_true, decide_false, Option.getD_some, Option.getD_none, keys_dctI]
  have a1 : evE (C (k + 2)) (.lc2 e_rounds_2 (.v 7) (.it (.s 3)) .no (.v 6) (.it (.e (.call i_led_to (.e (.idx (.s 2) (.var 7)) (.bor 3 (.bor 1 .nil)))))) c_rounds_3 [7, 6]) [some (.im h.d), some s, some (.own (.dct (dctO h.objs))), some (.own (.dct (dctI f))), some (.im (.int t)), x5, x6, none] = .ok (.own (.lst ((moreN h gone f).map PyData.int)), [some (.im h.d), some s, some (.own (.dct (dctO h.objs))), some (.own (.dct (dctI f))), some (.im (.int t)), x5, x6, none]) := by
    rw [evE, s1, R.ok_bind]
    have w1 : wipeS (lockS [some (.im h.d), some s, some (.own (.dct (dctO h.objs))), some (.own (.dct (dctI f))), some (.im (.int t)), x5, x6, none] (Sc.it (.s 3)).locks) [7, 6] = [some (.im h.d), some s, some (.own (.dct (dctO h.objs))), some (.bor (.dct (dctI f))), some (.im (.int t)), x5, none, none] := rfl
    rw [w1, lp, nox_ok, R.ok_bind, List.length_map, decide_eq_true l1, grd_true]
    rfl
  rw [evSs, evS, a1]
  simp (decide := true) only [evSs, evS, evE, evT, evEs, evAs, evO, evC, evR, evSc, evScN, srcN, slotC, R.ok_bind, R.exc_bind, R.bad_bind, R.ok_out, R.exc_out, R.bad_out, setS, cn_im, cn_own, cn_bor, cn_chg, cn_lst, cn_dct, cn_set, datR_im, datR_lst, tru_none, tru_bool, tru_int, tru_list, tru_tuple, trd_none, trd_bool, trd_int, trd_list, trd_tuple, len_list, len_tuple, len_dct, cv_int, cv_tup1, cv_tup2, cv_lst1, cv_lst2, slD_int, slD_tuple, slD_str, slD_list,
  isi_none, isi_bool, isi_int, isi_str, isi_tuple, isi_list, isTy, arg_im, arg_own, grd_true, get_0, get_s, var_eq, mov_eq, bor_eq, mut_eq, put_eq, fin_eq, lk_eq, un_eq, var_im, var_own, mov_im, mov_own, bor_im, bor_own, bor_bor, bor_chg, mut_own, mut_chg, put_own, put_chg, puts_nil, puts_cons, app_own, app_chg, isl_list, isd_dct, fin_nil, fin_im, fin_bor, fin_own, fin_chg, out_ret, out_nx, ob_nx, ob_ret, ob_brk, ob_cnt, ul_nx, ul_ret, bp_im, bp_own, bp_t, bps_nil, bps_cons, lk_nil, lk_im, lk_bor, lk_own, lk_chg, un_nil, un_own, un_chg, un_im, un_bor, nox_ok, if_true, if_false, Bool.false_eq_true, as_nil, as_e, as_bor, as_chg,
  As.muts, As.bors, Sc.locks, Rdo.locks, Pt.slots, Pt.slotss, wipeS, backS, bAdd, bSub, c_lt, c_le, c_gt, c_ge, c_eq, c_ne, c_eqs, augD, itemsE, itemsS, isN_none, isN_bool, isN_int, isN_str, isN_tuple, isN_list, opt_none, Bool.xor_false, Bool.false_xor, Bool.true_xor, Bool.xor_true,
  List.getElem?_cons_zero, List.getElem?_cons_succ, List.getElem?_nil, List.set_cons_zero, List.set_cons_succ, List.length_cons, List.length_nil, List.map_cons, List.map_nil, Bool.true_and, Bool.and_true, Bool.not_true, Bool.not_false, Bool.and_self, List.all_nil, List.all_cons, List.nodup_nil, List.nodup_cons, List.not_mem_nil, not_false_eq_true, and_true, List.contains_nil, List.contains_eq_mem, decide_true, decide_false, Option.getD_some, Option.getD_none]
theorem turn_end {t : Int} {f : List (Int × Int)} {x5 x6 : Option Sl} (i : RInv h gone f) (e : moreN h gone f = []) :
    ∃ ρ', evSs (C (k + 2)) 200 b_rounds_4 [some (.im h.d), some s, some (.own (.dct (dctO h.objs))), some (.own (.dct (dctI f))), some (.im (.int t)), x5, x6, none] = .ret (.own (.dct (dctI f))) ρ' := by
  have tm := fun Z => turn_more (k := k) hk hs (t := t + 1) (x5 := x5) (x6 := x6) i Z
  rw [e] at tm
  refine ⟨[some (.im h.d), some s, some (.own (.dct (dctO h.objs))), none, some (.im (.int (t + 1))), some (.own (.lst [])), x6, none], ?_⟩
  unfold b_rounds_4
  rw [evSs]
  have a1 : evS (C (k + 2)) 200 (.aug 4 .add (.lit (.int 1))) [some (.im h.d), some s, some (.own (.dct (dctO h.objs))), some (.own (.dct (dctI f))), some (.im (.int t)), x5, x6, none] = .nx [some (.im h.d), some s, some (.own (.dct (dctO h.objs))), some (.own (.dct (dctI f))), some (.im (.int (t + 1))), x5, x6, none] := by simp only [evSs, evS, evE, evT, evEs, evAs, evO, evC, evR, evSc, evScN, srcN, slotC, R.ok_bind, R.exc_bind, R.bad_bind, R.ok_out, R.exc_out, R.bad_out, setS, cn_im, cn_own, cn_bor, cn_chg, cn_lst, cn_dct, cn_set, datR_im, datR_lst, tru_none, tru_bool, tru_int, tru_list, tru_tuple, trd_none, trd_bool, trd_int, trd_list, trd_tuple, len_list, len_tuple, len_dct, cv_int, cv_tup1, cv_tup2, cv_lst1, cv_lst2, slD_int, slD_tuple, slD_str, slD_list,
  isi_none, isi_bool, isi_int, isi_str, isi_tuple, isi_list, isTy, arg_im, arg_own, grd_true, get_0, get_s, var_eq, mov_eq, bor_eq, mut_eq, put_eq, fin_eq, lk_eq, un_eq, var_im, var_own, mov_im, mov_own, bor_im, bor_own, bor_bor, bor_chg, mut_own, mut_chg, put_own, put_chg, puts_nil, puts_cons, app_own, app_chg, isl_list, isd_dct, fin_nil, fin_im, fin_bor, fin_own, fin_chg, out_ret, out_nx, ob_nx, ob_ret, ob_brk, ob_cnt, ul_nx, ul_ret, bp_im, bp_own, bp_t, bps_nil, bps_cons, lk_nil, lk_im, lk_bor, lk_own, lk_chg, un_nil, un_own, un_chg, un_im, un_bor, nox_ok, if_true, if_false, Bool.false_eq_true, as_nil, as_e, as_bor, as_chg,
  As.muts, As.bors, Sc.locks, Rdo.locks, Pt.slots, Pt.slotss, wipeS, backS, bAdd, bSub, c_lt, c_le, c_gt, c_ge, c_eq, c_ne, c_eqs, augD, itemsE, itemsS, isN_none, isN_bool, isN_int, isN_str, isN_tuple, isN_list, opt_none, Bool.xor_false, Bool.false_xor, Bool.true_xor, Bool.xor_true,
  List.getElem?_cons_zero, List.getElem?_cons_succ, List.getElem?_nil, List.set_cons_zero, List.set_cons_succ, List.length_cons, List.length_nil, List.map_cons, List.map_nil, Bool.true_and, Bool.and_true, Bool.not_true, Bool.not_false, Bool.and_self, List.all_nil, List.all_cons, List.nodup_nil, List.nodup_cons, List.not_mem_nil, not_false_eq_true, and_true, List.contains_nil, List.contains_eq_mem, decide_true, decide_false, Option.getD_some, Option.getD_none]
  rw [a1, ob_nx, tm]
  simp (decide := true) only [evSs, evS, evE, evT, evEs, evAs, evO, evC, evR, evSc, evScN, srcN, slotC, R.ok_bind, R.exc_bind, R.bad_bind, R.ok_out, R.exc_out, R.bad_out, setS, cn_im, cn_own, cn_bor, cn_chg, cn_lst, cn_dct, cn_set, datR_im, datR_lst, tru_none, tru_bool, tru_int, tru_list, tru_tuple, trd_none, trd_bool, trd_int, trd_list, trd_tuple, len_list, len_tuple, len_dct, cv_int, cv_tup1, cv_tup2, cv_lst1, cv_lst2, slD_int, slD_tuple, slD_str, slD_list,
  isi_none, isi_bool, isi_int, isi_str, isi_tuple, isi_list, isTy, arg_im, arg_own, grd_true, get_0, get_s, var_eq, mov_eq, bor_eq, mut_eq, put_eq, fin_eq, lk_eq, un_eq, var_im, var_own, mov_im, mov_own, bor_im, bor_own, bor_bor, bor_chg, mut_own, mut_chg, put_own, put_chg, puts_nil, puts_cons, app_own, app_chg, isl_list, isd_dct, fin_nil, fin_im, fin_bor, fin_own, fin_chg, out_ret, out_nx, ob_nx, ob_ret, ob_brk, ob_cnt, ul_nx, ul_ret, bp_im, bp_own, bp_t, bps_nil, bps_cons, lk_nil, lk_im, lk_bor, lk_own, lk_chg, un_nil, un_own, un_chg, un_im, un_bor, nox_ok, if_true, if_false, Bool.false_eq_true, as_nil, as_e, as_bor, as_chg,
  As.muts, As.bors, Sc.locks, Rdo.locks, Pt.slots, Pt.slotss, wipeS, backS, bAdd, bSub, c_lt, c_le, c_gt, c_ge, c_eq, c_ne, c_eqs, augD, itemsE, itemsS, isN_none, isN_bool, isN_int, isN_str, isN_tuple, isN_list, opt_none, Bool.xor_false, Bool.false_xor, Bool.true_xor, Bool.xor_true,
  List.getElem?_cons_zero, List.getElem?_cons_succ, List.getElem?_nil, List.set_cons_zero, List.set_cons_succ, List.length_cons, List.length_nil, List.map_cons, List.map_nil, Bool.true_and, Bool.and_true, Bool.not_true, Bool.not_false, Bool.and_self, List.all_nil, List.all_cons, List.nodup_nil, List.nodup_cons, List.not_mem_nil, not_false_eq_true, and_true, List.contains_nil, List.contains_eq_mem, decide_true, decide_false, Option.getD_some, Option.getD_none, List.isEmpty_nil]
theorem turn_nx {t : Int} {f : List (Int × Int)} {x5 x6 : Option Sl} (i : RInv h gone f) (e : moreN h gone f ≠ []) :
    ∃ x5' x6', evSs (C (k + 2)) 200 b_rounds_4 [some (.im h.d), some s, some (.own (.dct (dctO h.objs))), some (.own (.dct (dctI f))), some (.im (.int t)), x5, x6, none] = .nx [some (.im h.d), some s, some (.own (.dct (dctO h.objs))), some (.own (.dct (dctI (putsI (moreN h gone f) (t + 1) f)))), some (.im (.int (t + 1))), x5', x6', none] := by
  have tm := fun Z => turn_more (k := k) hk hs (t := t + 1) (x5 := x5) (x6 := x6) i Z
  have a1 : evS (C (k + 2)) 200 (.aug 4 .add (.lit (.int 1))) [some (.im h.d), some s, some (.own (.dct (dctO h.objs))), some (.own (.dct (dctI f))), some (.im (.int t)), x5, x6, none] = .nx [some (.im h.d), some s, some (.own (.dct (dctO h.objs))), some (.own (.dct (dctI f))), some (.im (.int (t + 1))), x5, x6, none] := by simp only [evSs, evS, evE, evT, evEs, evAs, evO, evC, evR, evSc, evScN, srcN, slotC, R.ok_bind, R.exc_bind, R.bad_bind, R.ok_out, R.exc_out, R.bad_out, setS, cn_im, cn_own, cn_bor, cn_chg, cn_lst, cn_dct, cn_set, datR_im, datR_lst, tru_none, tru_bool, tru_int, tru_list, tru_tuple, trd_none, trd_bool, trd_int, trd_list, trd_tuple, len_list, len_tuple, len_dct, cv_int, cv_tup1, cv_tup2, cv_lst1, cv_lst2, slD_int, slD_tuple, slD_str, slD_list,
  isi_none, isi_bool, isi_int, isi_str, isi_tuple, isi_list, isTy, arg_im, arg_own, grd_true, get_0, get_s, var_eq, mov_eq, bor_eq, mut_eq, put_eq, fin_eq, lk_eq, un_eq, var_im, var_own, mov_im, mov_own, bor_im, bor_own, bor_bor, bor_chg, mut_own, mut_chg, put_own, put_chg, puts_nil, puts_cons, app_own, app_chg, isl_list, isd_dct, fin_nil, fin_im, fin_bor, fin_own, fin_chg, out_ret, out_nx, ob_nx, ob_ret, ob_brk, ob_cnt, ul_nx, ul_ret, bp_im, bp_own, bp_t, bps_nil, bps_cons, lk_nil, lk_im, lk_bor, lk_own, lk_chg, un_nil, un_own, un_chg, un_im, un_bor, nox_ok, if_true, if_false, Bool.false_eq_true, as_nil, as_e, as_bor, as_chg,
  As.muts, As.bors, Sc.locks, Rdo.locks, Pt.slots, Pt.slotss, wipeS, backS, bAdd, bSub, c_lt, c_le, c_gt, c_ge, c_eq, c_ne, c_eqs, augD, itemsE, itemsS, isN_none, isN_bool, isN_int, isN_str, isN_tuple, isN_list, opt_none, Bool.xor_false, Bool.false_xor, Bool.true_xor, Bool.xor_true,
  List.getElem?_cons_zero, List.getElem?_cons_succ, List.getElem?_nil, List.set_cons_zero, List.set_cons_succ, List.length_cons, List.length_nil, List.map_cons, List.map_nil, Bool.true_and, Bool.and_true, Bool.not_true, Bool.not_false, Bool.and_self, List.all_nil, List.all_cons, List.nodup_nil, List.nodup_cons, List.not_mem_nil, not_false_eq_true, and_true, List.contains_nil, List.contains_eq_mem, decide_true, decide_false, Option.getD_some, Option.getD_none]
  obtain ⟨ρ', h1, y6, h2, h3, h4⟩ := loopF_g (p := .v 6) (b := evSs (C (k + 2)) 200 b_rounds_1) PyData.int (fun (g : List (Int × Int)) ρ => ∃ y6, ρ = [some (.im h.d), some s, some (.own (.dct (dctO h.objs))), some (.own (.dct (dctI g))), some (.im (.int (t + 1))), some (.bor (.lst ((moreN h gone f).map PyData.int))), y6, none] ∧ (keysI g).Nodup ∧ ∀ x ∈ keysI g, x ∈ h.nums) (fun g x => putI x (t + 1) g) (moreN h gone f)
    (fun x hx g ρ ⟨y6, h2, h3, h4⟩ => by
      subst h2
      have hn : x ∈ h.nums := by
        have := (rinv_step hk (t := t + 1) i).get x (mem_keys_puts.mpr (.inl hx))
        exact this.nums hk
      have l1 : (dctI g).length < lineN := by
        have := nodup_len h3 h4
        have := hk.few
        have e : (dctI g).length = (keysI g).length := by unfold dctI keysI; simp
        unfold lineN; omega
      have st : setC (.int x) (.int (t + 1)) (.own (.dct (dctI g))) = .ok (.own (.dct (dctI (putI x (t + 1) g)))) := by
        show guardR (true && decide ((dctI g).length < lineN)) (R.ok (Sl.own (.dct (putD (.int x) (.int (t + 1)) (dctI g))))) = _
        rw [decide_eq_true l1, put_dctI]; rfl
      refine ⟨_, [some (.im h.d), some s, some (.own (.dct (dctO h.objs))), some (.own (.dct (dctI (putI x (t + 1) g)))), some (.im (.int (t + 1))), some (.bor (.lst ((moreN h gone f).map PyData.int))), some (.im (.int x)), none], bp_im, ?_, some (.im (.int x)), rfl, nodup_put h3, fun y hy => ?_⟩
      · simp only [b_rounds_1, evSs, evS, evE, evT, evEs, evAs, evO, evC, evR, evSc, evScN, srcN, slotC, R.ok_bind, R.exc_bind, R.bad_bind, R.ok_out, R.exc_out, R.bad_out, setS, cn_im, cn_own, cn_bor, cn_chg, cn_lst, cn_dct, cn_set, datR_im, datR_lst, tru_none, tru_bool, tru_int, tru_list, tru_tuple, trd_none, trd_bool, trd_int, trd_list, trd_tuple, len_list, len_tuple, len_dct, cv_int, cv_tup1, cv_tup2, cv_lst1, cv_lst2, slD_int, slD_tuple, slD_str, slD_list,
  isi_none, isi_bool, isi_int, isi_str, isi_tuple, isi_list, isTy, arg_im, arg_own, grd_true, get_0, get_s, var_eq, mov_eq, bor_eq, mut_eq, put_eq, fin_eq, lk_eq, un_eq, var_im, var_own, mov_im, mov_own, bor_im, bor_own, bor_bor, bor_chg, mut_own, mut_chg, put_own, put_chg, puts_nil, puts_cons, app_own, app_chg, isl_list, isd_dct, fin_nil, fin_im, fin_bor, fin_own, fin_chg, out_ret, out_nx, ob_nx, ob_ret, ob_brk, ob_cnt, ul_nx, ul_ret, bp_im, bp_own, bp_t, bps_nil, bps_cons, lk_nil, lk_im, lk_bor, lk_own, lk_chg, un_nil, un_own, un_chg, un_im, un_bor, nox_ok, if_true, if_false, Bool.false_eq_true, as_nil, as_e, as_bor, as_chg,
  As.muts, As.bors, Sc.locks, Rdo.locks, Pt.slots, Pt.slotss, wipeS, backS, bAdd, bSub, c_lt, c_le, c_gt, c_ge, c_eq, c_ne, c_eqs, augD, itemsE, itemsS, isN_none, isN_bool, isN_int, isN_str, isN_tuple, isN_list, opt_none, Bool.xor_false, Bool.false_xor, Bool.true_xor, Bool.xor_true,
  List.getElem?_cons_zero, List.getElem?_cons_succ, List.getElem?_nil, List.set_cons_zero, List.set_cons_succ, List.length_cons, List.length_nil, List.map_cons, List.map_nil, Bool.true_and, Bool.and_true, Bool.not_true, Bool.not_false, Bool.and_self, List.all_nil, List.all_cons, List.nodup_nil, List.nodup_cons, List.not_mem_nil, not_false_eq_true, and_true, List.contains_nil, List.contains_eq_mem, decide_true, decide_false, Option.getD_some, Option.getD_none, st]
      · rcases mem_keys_put.mp hy with rfl | hy
        · exact hn
        · exact h4 y hy) f [some (.im h.d), some s, some (.own (.dct (dctO h.objs))), some (.own (.dct (dctI f))), some (.im (.int (t + 1))), some (.bor (.lst ((moreN h gone f).map PyData.int))), x6, none] ⟨x6, rfl, i.nd, fun x hx => (i.get x hx).nums hk⟩
  subst h2
  refine ⟨some (.own (.lst ((moreN h gone f).map PyData.int))), y6, ?_⟩
  unfold b_rounds_4
  rw [evSs, a1, ob_nx, tm]
  have ne : ((moreN h gone f).map PyData.int).isEmpty = false := by
    cases q : moreN h gone f with
    | nil => exact absurd q e
    | cons _ _ => rfl
  simp (decide := true) only [evSs, evS, evE, evT, evEs, evAs, evO, evC, evR, evSc, evScN, srcN, slotC, R.ok_bind, R.exc_bind, R.bad_bind, R.ok_out, R.exc_out, R.bad_out, setS, cn_im, cn_own, cn_bor, cn_chg, cn_lst, cn_dct, cn_set, datR_im, datR_lst, tru_none, tru_bool, tru_int, tru_list, tru_tuple, trd_none, trd_bool, trd_int, trd_list, trd_tuple, len_list, len_tuple, len_dct, cv_int, cv_tup1, cv_tup2, cv_lst1, cv_lst2, slD_int, slD_tuple, slD_str, slD_list,
  isi_none, isi_bool, isi_int, isi_str, isi_tuple, isi_list, isTy, arg_im, arg_own, grd_true, get_0, get_s, var_eq, mov_eq, bor_eq, mut_eq, put_eq, fin_eq, lk_eq, un_eq, var_im, var_own, mov_im, mov_own, bor_im, bor_own, bor_bor, bor_chg, mut_own, mut_chg, put_own, put_chg, puts_nil, puts_cons, app_own, app_chg, isl_list, isd_dct, fin_nil, fin_im, fin_bor, fin_own, fin_chg, out_ret, out_nx, ob_nx, ob_ret, ob_brk, ob_cnt, ul_nx, ul_ret, bp_im, bp_own, bp_t, bps_nil, bps_cons, lk_nil, lk_im, lk_bor, lk_own, lk_chg, un_nil, un_own, un_chg, un_im, un_bor, nox_ok, if_true, if_false, Bool.false_eq_true, as_nil, as_e, as_bor, as_chg,
  As.muts, As.bors, Sc.locks, Rdo.locks, Pt.slots, Pt.slotss, wipeS, backS, bAdd, bSub, c_lt, c_le, c_gt, c_ge, c_eq, c_ne, c_eqs, augD, itemsE, itemsS, isN_none, isN_bool, isN_int, isN_str, isN_tuple, isN_list, opt_none, Bool.xor_false, Bool.false_xor, Bool.true_xor, Bool.xor_true,
  List.getElem?_cons_zero, List.getElem?_cons_succ, List.getElem?_nil, List.set_cons_zero, List.set_cons_succ, List.length_cons, List.length_nil, List.map_cons, List.map_nil, Bool.true_and, Bool.and_true, Bool.not_true, Bool.not_false, Bool.and_self, List.all_nil, List.all_cons, List.nodup_nil, List.nodup_cons, List.not_mem_nil, not_false_eq_true, and_true, List.contains_nil, List.contains_eq_mem, decide_true, decide_false, Option.getD_some, Option.getD_none, ne, h1]
  rfl
theorem rounds_loop : ∀ (n : Nat) {t : Int} {f : List (Int × Int)} {x5 x6 : Option Sl}, RInv h gone f → h.nums.length < n + cnt h.nums (keysI f) →
    ∃ ρ', loopW (evT (C (k + 2)) e_rounds_0) (evSs (C (k + 2)) 200 b_rounds_4) n [some (.im h.d), some s, some (.own (.dct (dctO h.objs))), some (.own (.dct (dctI f))), some (.im (.int t)), x5, x6, none] = .ret (.own (.dct (dctI (rndN h gone n t f)))) ρ'
  | 0, t, f, x5, x6, i, q => absurd q (by have := cnt_le h.nums (keysI f); omega)
  | n + 1, t, f, x5, x6, i, q => by
    have ev : evT (C (k + 2)) e_rounds_0 [some (.im h.d), some s, some (.own (.dct (dctO h.objs))), some (.own (.dct (dctI f))), some (.im (.int t)), x5, x6, none] = .ok (true, [some (.im h.d), some s, some (.own (.dct (dctO h.objs))), some (.own (.dct (dctI f))), some (.im (.int t)), x5, x6, none]) := by simp only [e_rounds_0, evSs, evS, evE, evT, evEs, evAs, evO, evC, evR, evSc, evScN, srcN, slotC, R.ok_bind, R.exc_bind, R.bad_bind, R.ok_out, R.exc_out, R.bad_out, setS, cn_im, cn_own, cn_bor, cn_chg, cn_lst, cn_dct, cn_set, datR_im, datR_lst, tru_none, tru_bool, tru_int, tru_list, tru_tuple, trd_none, trd_bool, trd_int, trd_list, trd_tuple, len_list, len_tuple, len_dct, cv_int, cv_tup1, cv_tup2, cv_lst1, cv_lst2, slD_int, slD_tuple, slD_str, slD_list,
  isi_none, isi_bool, isi_int, isi_str, isi_tuple, isi_list, isTy, arg_im, arg_own, grd_true, get_0, get_s, var_eq, mov_eq, bor_eq, mut_eq, put_eq, fin_eq, lk_eq, un_eq, var_im, var_own, mov_im, mov_own, bor_im, bor_own, bor_bor, bor_chg, mut_own, mut_chg, put_own, put_chg, puts_nil, puts_cons, app_own, app_chg, isl_list, isd_dct, fin_nil, fin_im, fin_bor, fin_own, fin_chg, out_ret, out_nx, ob_nx, ob_ret, ob_brk, ob_cnt, ul_nx, ul_ret, bp_im, bp_own, bp_t, bps_nil, bps_cons, lk_nil, lk_im, lk_bor, lk_own, lk_chg, un_nil, un_own, un_chg, un_im, un_bor, nox_ok, if_true, if_false, Bool.false_eq_true, as_nil, as_e, as_bor, as_chg,
  As.muts, As.bors, Sc.locks, Rdo.locks, Pt.slots, Pt.slotss, wipeS, backS, bAdd, bSub, c_lt, c_le, c_gt, c_ge, c_eq, c_ne, c_eqs, augD, itemsE, itemsS, isN_none, isN_bool, isN_int, isN_str, isN_tuple, isN_list, opt_none, Bool.xor_false, Bool.false_xor, Bool.true_xor, Bool.xor_true,
  List.getElem?_cons_zero, List.getElem?_cons_succ, List.getElem?_nil, List.set_cons_zero, List.set_cons_succ, List.length_cons, List.length_nil, List.map_cons, List.map_nil, Bool.true_and, Bool.and_true, Bool.not_true, Bool.not_false, Bool.and_self, List.all_nil, List.all_cons, List.nodup_nil, List.nodup_cons, List.not_mem_nil, not_false_eq_true, and_true, List.contains_nil, List.contains_eq_mem, decide_true, decide_false, Option.getD_some, Option.getD_none]
    unfold loopW
    rw [ev, R.ok_out, if_pos rfl]
    unfold rndN
    by_cases e : moreN h gone f = []
    · obtain ⟨ρ', h1⟩ := turn_end (k := k) hk hs (t := t) (x5 := x5) (x6 := x6) i e
      rw [h1, if_pos e]
      exact ⟨ρ', rfl⟩
    · obtain ⟨x5', x6', h1⟩ := turn_nx (k := k) hk hs (t := t) (x5 := x5) (x6 := x6) i e
      rw [h1, if_neg e]
      exact rounds_loop n (rinv_step hk i) (by have := rinv_lt hk (t := t + 1) i e; omega)
theorem rounds_ok : C (k + 3) i_rounds [.im h.d, s] = .ok (.own (.dct (dctI (h.rnd gone))), []) := by
  have key : ∀ ρ, startS db_rounds.fd [.im h.d, s] = ρ → C (k + 2 + 1) i_rounds [.im h.d, s] = outCall [.im h.d, s] (evSs (C (k + 2)) 200 b_rounds ρ) := fun ρ h => call_unf (k := k + 2) (d := db_rounds) rfl rfl ρ h
  rw [key [some (.im h.d), some (s), none, none, none, none, none, none] rfl]
  unfold b_rounds
  have fin : ∀ ρ, finals ρ 0 [.im h.d, s] = .ok [] := fun ρ => by rw [fin_im, hs.fin, fin_nil]
  have h1 := by_number_ok (k := k + 1) hk
  have h2 := held_in_ok (k := k + 1) hk.fewR
  have lp := loopD_g (p := .v 6) (own := [6]) (ρ := [some (.im h.d), some s, some (.own (.dct (dctO h.objs))), none, none, none, none, none]) (c := evC (C (k + 2)) .no) (f := fun ρ => datR (evE (C (k + 2)) e_rounds_5 ρ) >>= fun rk => datR (evE (C (k + 2)) e_rounds_6 rk.2) >>= fun rv => .ok ((rk.1, rv.1), rv.2)) PyData.int (fun x => [some (.im h.d), some s, some (.own (.dct (dctO h.objs))), none, none, none, some (.im (.int x)), none]) (fun x => (PyData.int x, PyData.int 0)) dctI (fun f x => putI x 0 f) (h.regs.filterMap id) []
    (fun x _ => ⟨bp_im, evC_no, by simp only [e_rounds_5, e_rounds_6, evSs, evS, evE, evT, evEs, evAs, evO, evC, evR, evSc, evScN, srcN, slotC, R.ok_bind, R.exc_bind, R.bad_bind, R.ok_out, R.exc_out, R.bad_out, setS, cn_im, cn_own, cn_bor, cn_chg, cn_lst, cn_dct, cn_set, datR_im, datR_lst, tru_none, tru_bool, tru_int, tru_list, tru_tuple, trd_none, trd_bool, trd_int, trd_list, trd_tuple, len_list, len_tuple, len_dct, cv_int, cv_tup1, cv_tup2, cv_lst1, cv_lst2, slD_int, slD_tuple, slD_str, slD_list,
  isi_none, isi_bool, isi_int, isi_str, isi_tuple, isi_list, isTy, arg_im, arg_own, grd_true, get_0, get_s, var_eq, mov_eq, bor_eq, mut_eq, put_eq, fin_eq, lk_eq, un_eq, var_im, var_own, mov_im, mov_own, bor_im, bor_own, bor_bor, bor_chg, mut_own, mut_chg, put_own, put_chg, puts_nil, puts_cons, app_own, app_chg, isl_list, isd_dct, fin_nil, fin_im, fin_bor, fin_own, fin_chg, out_ret, out_nx, ob_nx, ob_ret, ob_brk, ob_cnt, ul_nx, ul_ret, bp_im, bp_own, bp_t, bps_nil, bps_cons, lk_nil, lk_im, lk_bor, lk_own, lk_chg, un_nil, un_own, un_chg, un_im, un_bor, nox_ok, if_true, if_false, Bool.false_eq_true, as_nil, as_e, as_bor, as_chg,
  As.muts, As.bors, Sc.locks, Rdo.locks, Pt.slots, Pt.slotss, wipeS, backS, bAdd, bSub, c_lt, c_le, c_gt, c_ge, c_eq, c_ne, c_eqs, augD, itemsE, itemsS, isN_none, isN_bool, isN_int, isN_str, isN_tuple, isN_list, opt_none, Bool.xor_false, Bool.false_xor, Bool.true_xor, Bool.xor_true,
  List.getElem?_cons_zero, List.getElem?_cons_succ, List.getElem?_nil, List.set_cons_zero, List.set_cons_succ, List.length_cons, List.length_nil, List.map_cons, List.map_nil, Bool.true_and, Bool.and_true, Bool.not_true, Bool.not_false, Bool.and_self, List.all_nil, List.all_cons, List.nodup_nil, List.nodup_cons, List.not_mem_nil, not_false_eq_true, and_true, List.contains_nil, List.contains_eq_mem, decide_true, decide_false, Option.getD_some, Option.getD_none], rfl, rfl⟩)
    (fun ys x zs _ => by rw [put_dctI, List.foldl_append]; rfl)
  have e0 : dctI [] = [] := rfl
  rw [e0] at lp
  have l1 : (h.regs.filterMap id).length ≤ lineN := by have := List.length_filterMap_le id h.regs; have := hk.fewR; unfold lineN; omega
  obtain ⟨ρ', h3⟩ := rounds_loop (k := k) hk hs 200 (t := 0) (x5 := none) (x6 := none) (rinv0 h gone) (by have := hk.few; omega)
  have e1 : (h.regs.filterMap id).foldl (fun f x => putI x 0 f) [] = rnd0 h := rfl
  rw [e1] at lp
  have e2 : rndN h gone 200 0 (rnd0 h) = h.rnd gone := rfl
  rw [e2] at h3
  simp (decide := true) only [evSs, evS, evE, evT, evEs, evAs, evO, evC, evR, evSc, evScN, srcN, slotC, R.ok_bind, R.exc_bind, R.bad_bind, R.ok_out, R.exc_out, R.bad_out, setS, cn_im, cn_own, cn_bor, cn_chg, cn_lst, cn_dct, cn_set, datR_im, datR_lst, tru_none, tru_bool, tru_int, tru_list, tru_tuple, trd_none, trd_bool, trd_int, trd_list, trd_tuple, len_list, len_tuple, len_dct, cv_int, cv_tup1, cv_tup2, cv_lst1, cv_lst2, slD_int, slD_tuple, slD_str, slD_list,
  isi_none, isi_bool, isi_int, isi_str, isi_tuple, isi_list, isTy, arg_im, arg_own, grd_true, get_0, get_s, var_eq, mov_eq, bor_eq, mut_eq, put_eq, fin_eq, lk_eq, un_eq, var_im, var_own, mov_im, mov_own, bor_im, bor_own, bor_bor, bor_chg, mut_own, mut_chg, put_own, put_chg, puts_nil, puts_cons, app_own, app_chg, isl_list, isd_dct, fin_nil, fin_im, fin_bor, fin_own, fin_chg, out_ret, out_nx, ob_nx, ob_ret, ob_brk, ob_cnt, ul_nx, ul_ret, bp_im, bp_own, bp_t, bps_nil, bps_cons, lk_nil, lk_im, lk_bor, lk_own, lk_chg, un_nil, un_own, un_chg, un_im, un_bor, nox_ok, if_true, if_false, Bool.false_eq_true, as_nil, as_e, as_bor, as_chg,
  As.muts, As.bors, Sc.locks, Rdo.locks, Pt.slots, Pt.slotss, wipeS, backS, bAdd, bSub, c_lt, c_le, c_gt, c_ge, c_eq, c_ne, c_eqs, augD, itemsE, itemsS, isN_none, isN_bool, isN_int, isN_str, isN_tuple, isN_list, opt_none, Bool.xor_false, Bool.false_xor, Bool.true_xor, Bool.xor_true,
  List.getElem?_cons_zero, List.getElem?_cons_succ, List.getElem?_nil, List.set_cons_zero, List.set_cons_succ, List.length_cons, List.length_nil, List.map_cons, List.map_nil, Bool.true_and, Bool.and_true, Bool.not_true, Bool.not_false, Bool.and_self, List.all_nil, List.all_cons, List.nodup_nil, List.nodup_cons, List.not_mem_nil, not_false_eq_true, and_true, List.contains_nil, List.contains_eq_mem, decide_true, decide_false, Option.getD_some, Option.getD_none, h1, hx_2, h2, lp, List.length_map, l1, h3, fin]
theorem obtainable_ok : C (k + 4) i_obtainable [.im h.d, s] = .ok (.im (intsT (h.obt gone)), []) := by
  have key : ∀ ρ, startS db_obtainable.fd [.im h.d, s] = ρ → C (k + 3 + 1) i_obtainable [.im h.d, s] = outCall [.im h.d, s] (evSs (C (k + 3)) 200 b_obtainable ρ) := fun ρ h => call_unf (k := k + 3) (d := db_obtainable) rfl rfl ρ h
  rw [key [some (.im h.d), some (s)] rfl]
  unfold b_obtainable
  have fin : ∀ ρ, finals ρ 0 [.im h.d, s] = .ok [] := fun ρ => by rw [fin_im, hs.fin, fin_nil]
  have h1 := rounds_ok (k := k) hk hs
  obtain ⟨h2, h3⟩ := rnd_ok hk gone
  have h4 : cvC .srt (.dct (dctI (h.rnd gone))) = .ok (.own (.lst ((h.obt gone).map PyData.int))) := by
    show (sortC (.dct (dctI (h.rnd gone))) >>= fun xs => R.ok (Sl.own (.lst xs))) = _
    show (guardR (((dctI (h.rnd gone)).map (·.1)).all isIntD) (R.ok (((dctI (h.rnd gone)).map (·.1)).mergeSort leD)) >>= fun xs => R.ok (Sl.own (.lst xs))) = _
    rw [keys_dctI, all_int, grd_true, sort_ints h2 (Hx.obt_up hk) fun x => by rw [h3, Hx.mem_obt hk]]
    rfl
  simp (decide := true) only [evSs, evS, evE, evT, evEs, evAs, evO, evC, evR, evSc, evScN, srcN, slotC, R.ok_bind, R.exc_bind, R.bad_bind, R.ok_out, R.exc_out, R.bad_out, setS, cn_im, cn_own, cn_bor, cn_chg, cn_lst, cn_dct, cn_set, datR_im, datR_lst, tru_none, tru_bool, tru_int, tru_list, tru_tuple, trd_none, trd_bool, trd_int, trd_list, trd_tuple, len_list, len_tuple, len_dct, cv_int, cv_tup1, cv_tup2, cv_lst1, cv_lst2, slD_int, slD_tuple, slD_str, slD_list,
  isi_none, isi_bool, isi_int, isi_str, isi_tuple, isi_list, isTy, arg_im, arg_own, grd_true, get_0, get_s, var_eq, mov_eq, bor_eq, mut_eq, put_eq, fin_eq, lk_eq, un_eq, var_im, var_own, mov_im, mov_own, bor_im, bor_own, bor_bor, bor_chg, mut_own, mut_chg, put_own, put_chg, puts_nil, puts_cons, app_own, app_chg, isl_list, isd_dct, fin_nil, fin_im, fin_bor, fin_own, fin_chg, out_ret, out_nx, ob_nx, ob_ret, ob_brk, ob_cnt, ul_nx, ul_ret, bp_im, bp_own, bp_t, bps_nil, bps_cons, lk_nil, lk_im, lk_bor, lk_own, lk_chg, un_nil, un_own, un_chg, un_im, un_bor, nox_ok, if_true, if_false, Bool.false_eq_true, as_nil, as_e, as_bor, as_chg,
  As.muts, As.bors, Sc.locks, Rdo.locks, Pt.slots, Pt.slotss, wipeS, backS, bAdd, bSub, c_lt, c_le, c_gt, c_ge, c_eq, c_ne, c_eqs, augD, itemsE, itemsS, isN_none, isN_bool, isN_int, isN_str, isN_tuple, isN_list, opt_none, Bool.xor_false, Bool.false_xor, Bool.true_xor, Bool.xor_true,
  List.getElem?_cons_zero, List.getElem?_cons_succ, List.getElem?_nil, List.set_cons_zero, List.set_cons_succ, List.length_cons, List.length_nil, List.map_cons, List.map_nil, Bool.true_and, Bool.and_true, Bool.not_true, Bool.not_false, Bool.and_self, List.all_nil, List.all_cons, List.nodup_nil, List.nodup_cons, List.not_mem_nil, not_false_eq_true, and_true, List.contains_nil, List.contains_eq_mem, decide_true, decide_false, Option.getD_some, Option.getD_none, h1, h4, hs.bor, fin]
end
theorem reachable_ok {k : Nat} {h : Hx} (hk : h.Ok) : C (k + 5) i_reachable [.im h.d] = .ok (.im (intsT (h.obt h.nums)), []) := by
  have key : ∀ ρ, startS db_reachable.fd [.im h.d] = ρ → C (k + 4 + 1) i_reachable [.im h.d] = outCall [.im h.d] (evSs (C (k + 4)) 200 b_reachable ρ) := fun ρ h => call_unf (k := k + 4) (d := db_reachable) rfl rfl ρ h
  rw [key [some (.im h.d)] rfl]
  unfold b_reachable
  have h1 := numbers_of_ok (k := k + 3) hk
  have h2 := obtainable_ok (k := k) hk (intsP_t h.nums)
  simp (decide := true) only [evSs, evS, evE, evT, evEs, evAs, evO, evC, evR, evSc, evScN, srcN, slotC, R.ok_bind, R.exc_bind, R.bad_bind, R.ok_out, R.exc_out, R.bad_out, setS, cn_im, cn_own, cn_bor, cn_chg, cn_lst, cn_dct, cn_set, datR_im, datR_lst, tru_none, tru_bool, tru_int, tru_list, tru_tuple, trd_none, trd_bool, trd_int, trd_list, trd_tuple, len_list, len_tuple, len_dct, cv_int, cv_tup1, cv_tup2, cv_lst1, cv_lst2, slD_int, slD_tuple, slD_str, slD_list,
  isi_none, isi_bool, isi_int, isi_str, isi_tuple, isi_list, isTy, arg_im, arg_own, grd_true, get_0, get_s, var_eq, mov_eq, bor_eq, mut_eq, put_eq, fin_eq, lk_eq, un_eq, var_im, var_own, mov_im, mov_own, bor_im, bor_own, bor_bor, bor_chg, mut_own, mut_chg, put_own, put_chg, puts_nil, puts_cons, app_own, app_chg, isl_list, isd_dct, fin_nil, fin_im, fin_bor, fin_own, fin_chg, out_ret, out_nx, ob_nx, ob_ret, ob_brk, ob_cnt, ul_nx, ul_ret, bp_im, bp_own, bp_t, bps_nil, bps_cons, lk_nil, lk_im, lk_bor, lk_own, lk_chg, un_nil, un_own, un_chg, un_im, un_bor, nox_ok, if_true, if_false, Bool.false_eq_true, as_nil, as_e, as_bor, as_chg,
  As.muts, As.bors, Sc.locks, Rdo.locks, Pt.slots, Pt.slotss, wipeS, backS, bAdd, bSub, c_lt, c_le, c_gt, c_ge, c_eq, c_ne, c_eqs, augD, itemsE, itemsS, isN_none, isN_bool, isN_int, isN_str, isN_tuple, isN_list, opt_none, Bool.xor_false, Bool.false_xor, Bool.true_xor, Bool.xor_true,
  List.getElem?_cons_zero, List.getElem?_cons_succ, List.getElem?_nil, List.set_cons_zero, List.set_cons_succ, List.length_cons, List.length_nil, List.map_cons, List.map_nil, Bool.true_and, Bool.and_true, Bool.not_true, Bool.not_false, Bool.and_self, List.all_nil, List.all_cons, List.nodup_nil, List.nodup_cons, List.not_mem_nil, not_false_eq_true, and_true, List.contains_nil, List.contains_eq_mem, decide_true, decide_false, Option.getD_some, Option.getD_none, h1, h2]
end K23

set_option Elab.async false
set_option linter.all false
set_option maxRecDepth 100000
set_option maxHeartbeats 0
namespace K23
open PySem PySem.Spec L2 Wk
/-! the law's own walk -/
theorem lfollows_ok {k : Nat} {nums got gone : List Int} {o : Ob} {s1 s2 : Sl} (ho : o.Ok nums) (h1 : IntsP s1 got) (h2 : IntsP s2 gone) : C (k + 1) i_law_follows [.im o.d, s1, s2] = .ok (.own (.lst ((o.led got gone).map PyData.int)), []) := by
  have key : ∀ ρ, startS db_law_follows.fd [.im o.d, s1, s2] = ρ → C (k + 1) i_law_follows [.im o.d, s1, s2] = outCall [.im o.d, s1, s2] (evSs (C (k)) 200 b_law_follows ρ) := fun ρ h => call_unf (k := k) (d := db_law_follows) rfl rfl ρ h
  rw [key [some (.im o.d), some (s1), some (s2), none, none] rfl]
  unfold b_law_follows
  have fin : ∀ ρ, finals ρ 0 [.im o.d, s1, s2] = .ok [] := fun ρ => by rw [fin_im, h1.fin, h2.fin, fin_nil]
  have m1 := @IntsP.mem s1 got h1
  have m2 := @IntsP.mem s2 gone h2
  cases o with
  | recd n fs =>
    have lp := fun n' => loopC_g (p := .v 4) (own := [4]) (ρ := [some (.im (Ob.recd n fs).d), some s1, some s2, none, none]) (c := evC n' c_law_follows_5) (f := fun ρ => datR (evE n' e_law_follows_4 ρ)) optD (fun r => [some (.im (Ob.recd n fs).d), some s1, some s2, none, some (.im (optD r))]) (fun r => !r.isNone) optD fs
      (fun r _ => ⟨bp_im, by simp only [c_law_follows_5, evSs, evS, evE, evT, evEs, evAs, evO, evC, evR, evSc, evScN, srcN, slotC, R.ok_bind, R.exc_bind, R.bad_bind, R.ok_out, R.exc_out, R.bad_out, setS, cn_im, cn_own, cn_bor, cn_chg, cn_lst, cn_dct, cn_set, datR_im, datR_lst, tru_none, tru_bool, tru_int, tru_list, tru_tuple, trd_none, trd_bool, trd_int, trd_list, trd_tuple, len_list, len_tuple, len_dct, cv_int, cv_tup1, cv_tup2, cv_lst1, cv_lst2, slD_int, slD_tuple, slD_str, slD_list,
  isi_none, isi_bool, isi_int, isi_str, isi_tuple, isi_list, isTy, arg_im, arg_own, grd_true, get_0, get_s, var_eq, mov_eq, bor_eq, mut_eq, put_eq, fin_eq, lk_eq, un_eq, var_im, var_own, mov_im, mov_own, bor_im, bor_own, bor_bor, bor_chg, mut_own, mut_chg, put_own, put_chg, puts_nil, puts_cons, app_own, app_chg, isl_list, isd_dct, fin_nil, fin_im, fin_bor, fin_own, fin_chg, out_ret, out_nx, ob_nx, ob_ret, ob_brk, ob_cnt, ul_nx, ul_ret, bp_im, bp_own, bp_t, bps_nil, bps_cons, lk_nil, lk_im, lk_bor, lk_own, lk_chg, un_nil, un_own, un_chg, un_im, un_bor, nox_ok, if_true, if_false, Bool.false_eq_true, as_nil, as_e, as_bor, as_chg,
  As.muts, As.bors, Sc.locks, Rdo.locks, Pt.slots, Pt.slotss, wipeS, backS, bAdd, bSub, c_lt, c_le, c_gt, c_ge, c_eq, c_ne, c_eqs, augD, itemsE, itemsS, isN_none, isN_bool, isN_int, isN_str, isN_tuple, isN_list, opt_none, Bool.xor_false, Bool.false_xor, Bool.true_xor, Bool.xor_true,
  List.getElem?_cons_zero, List.getElem?_cons_succ, List.getElem?_nil, List.set_cons_zero, List.set_cons_succ, List.length_cons, List.length_nil, List.map_cons, List.map_nil, Bool.true_and, Bool.and_true, Bool.not_true, Bool.not_false, Bool.and_self, List.all_nil, List.all_cons, List.nodup_nil, List.nodup_cons, List.not_mem_nil, not_false_eq_true, and_true, List.contains_nil, List.contains_eq_mem, decide_true, decide_false, Option.getD_some, Option.getD_none], fun _ => by simp only [e_law_follows_4, evSs, evS, evE, evT, evEs, evAs, evO, evC, evR, evSc, evScN, srcN, slotC, R.ok_bind, R.exc_bind, R.bad_bind, R.ok_out, R.exc_out, R.bad_out, setS, cn_im, cn_own, cn_bor, cn_chg, cn_lst, cn_dct, cn_set, datR_im, datR_lst, tru_none, tru_bool, tru_int, tru_list, tru_tuple, trd_none, trd_bool, trd_int, trd_list, trd_tuple, len_list, len_tuple, len_dct, cv_int, cv_tup1, cv_tup2, cv_lst1, cv_lst2, slD_int, slD_tuple, slD_str, slD_list,
  isi_none, isi_bool, isi_int, isi_str, isi_tuple, isi_list, isTy, arg_im, arg_own, grd_true, get_0, get_s, var_eq, mov_eq, bor_eq, mut_eq, put_eq, fin_eq, lk_eq, un_eq, var_im, var_own, mov_im, mov_own, bor_im, bor_own, bor_bor, bor_chg, mut_own, mut_chg, put_own, put_chg, puts_nil, puts_cons, app_own, app_chg, isl_list, isd_dct, fin_nil, fin_im, fin_bor, fin_own, fin_chg, out_ret, out_nx, ob_nx, ob_ret, ob_brk, ob_cnt, ul_nx, ul_ret, bp_im, bp_own, bp_t, bps_nil, bps_cons, lk_nil, lk_im, lk_bor, lk_own, lk_chg, un_nil, un_own, un_chg, un_im, un_bor, nox_ok, if_true, if_false, Bool.false_eq_true, as_nil, as_e, as_bor, as_chg,
  As.muts, As.bors, Sc.locks, Rdo.locks, Pt.slots, Pt.slotss, wipeS, backS, bAdd, bSub, c_lt, c_le, c_gt, c_ge, c_eq, c_ne, c_eqs, augD, itemsE, itemsS, isN_none, isN_bool, isN_int, isN_str, isN_tuple, isN_list, opt_none, Bool.xor_false, Bool.false_xor, Bool.true_xor, Bool.xor_true,
  List.getElem?_cons_zero, List.getElem?_cons_succ, List.getElem?_nil, List.set_cons_zero, List.set_cons_succ, List.length_cons, List.length_nil, List.map_cons, List.map_nil, Bool.true_and, Bool.and_true, Bool.not_true, Bool.not_false, Bool.and_self, List.all_nil, List.all_cons, List.nodup_nil, List.nodup_cons, List.not_mem_nil, not_false_eq_true, and_true, List.contains_nil, List.contains_eq_mem, decide_true, decide_false, Option.getD_some, Option.getD_none], rfl⟩)
    rw [opt_held] at lp
    have l1 : (fs.filterMap id).length ≤ lineN := by have := List.length_filterMap_le id fs; have := ho.2; unfold lineN; omega
    simp (decide := true) only [evSs, evS, evE, evT, evEs, evAs, evO, evC, evR, evSc, evScN, srcN, slotC, R.ok_bind, R.exc_bind, R.bad_bind, R.ok_out, R.exc_out, R.bad_out, setS, cn_im, cn_own, cn_bor, cn_chg, cn_lst, cn_dct, cn_set, datR_im, datR_lst, tru_none, tru_bool, tru_int, tru_list, tru_tuple, trd_none, trd_bool, trd_int, trd_list, trd_tuple, len_list, len_tuple, len_dct, cv_int, cv_tup1, cv_tup2, cv_lst1, cv_lst2, slD_int, slD_tuple, slD_str, slD_list,
  isi_none, isi_bool, isi_int, isi_str, isi_tuple, isi_list, isTy, arg_im, arg_own, grd_true, get_0, get_s, var_eq, mov_eq, bor_eq, mut_eq, put_eq, fin_eq, lk_eq, un_eq, var_im, var_own, mov_im, mov_own, bor_im, bor_own, bor_bor, bor_chg, mut_own, mut_chg, put_own, put_chg, puts_nil, puts_cons, app_own, app_chg, isl_list, isd_dct, fin_nil, fin_im, fin_bor, fin_own, fin_chg, out_ret, out_nx, ob_nx, ob_ret, ob_brk, ob_cnt, ul_nx, ul_ret, bp_im, bp_own, bp_t, bps_nil, bps_cons, lk_nil, lk_im, lk_bor, lk_own, lk_chg, un_nil, un_own, un_chg, un_im, un_bor, nox_ok, if_true, if_false, Bool.false_eq_true, as_nil, as_e, as_bor, as_chg,
  As.muts, As.bors, Sc.locks, Rdo.locks, Pt.slots, Pt.slotss, wipeS, backS, bAdd, bSub, c_lt, c_le, c_gt, c_ge, c_eq, c_ne, c_eqs, augD, itemsE, itemsS, isN_none, isN_bool, isN_int, isN_str, isN_tuple, isN_list, opt_none, Bool.xor_false, Bool.false_xor, Bool.true_xor, Bool.xor_true,
  List.getElem?_cons_zero, List.getElem?_cons_succ, List.getElem?_nil, List.set_cons_zero, List.set_cons_succ, List.length_cons, List.length_nil, List.map_cons, List.map_nil, Bool.true_and, Bool.and_true, Bool.not_true, Bool.not_false, Bool.and_self, List.all_nil, List.all_cons, List.nodup_nil, List.nodup_cons, List.not_mem_nil, not_false_eq_true, and_true, List.contains_nil, List.contains_eq_mem, decide_true, decide_false, Option.getD_some, Option.getD_none, ob_kind, Ob.kindS, recd_2, lp, List.length_map, l1, fin]
    rfl
  | weak n t =>
    have lp := fun n' => loopC_g (p := .v 4) (own := [4]) (ρ := [some (.im (Ob.weak n t).d), some s1, some s2, none, none]) (c := evC n' c_law_follows_3) (f := fun ρ => datR (evE n' e_law_follows_2 ρ)) optD (fun r => [some (.im (Ob.weak n t).d), some s1, some s2, none, some (.im (optD r))]) (fun r => match r with | some x => !decide (x ∈ gone) | none => false) optD [t]
      (fun r _ => ⟨bp_im, (by cases r <;> simp only [optD, c_law_follows_3, evSs, evS, evE, evT, evEs, evAs, evO, evC, evR, evSc, evScN, srcN, slotC, R.ok_bind, R.exc_bind, R.bad_bind, R.ok_out, R.exc_out, R.bad_out, setS, cn_im, cn_own, cn_bor, cn_chg, cn_lst, cn_dct, cn_set, datR_im, datR_lst, tru_none, tru_bool, tru_int, tru_list, tru_tuple, trd_none, trd_bool, trd_int, trd_list, trd_tuple, len_list, len_tuple, len_dct, cv_int, cv_tup1, cv_tup2, cv_lst1, cv_lst2, slD_int, slD_tuple, slD_str, slD_list,
  isi_none, isi_bool, isi_int, isi_str, isi_tuple, isi_list, isTy, arg_im, arg_own, grd_true, get_0, get_s, var_eq, mov_eq, bor_eq, mut_eq, put_eq, fin_eq, lk_eq, un_eq, var_im, var_own, mov_im, mov_own, bor_im, bor_own, bor_bor, bor_chg, mut_own, mut_chg, put_own, put_chg, puts_nil, puts_cons, app_own, app_chg, isl_list, isd_dct, fin_nil, fin_im, fin_bor, fin_own, fin_chg, out_ret, out_nx, ob_nx, ob_ret, ob_brk, ob_cnt, ul_nx, ul_ret, bp_im, bp_own, bp_t, bps_nil, bps_cons, lk_nil, lk_im, lk_bor, lk_own, lk_chg, un_nil, un_own, un_chg, un_im, un_bor, nox_ok, if_true, if_false, Bool.false_eq_true, as_nil, as_e, as_bor, as_chg,
  As.muts, As.bors, Sc.locks, Rdo.locks, Pt.slots, Pt.slotss, wipeS, backS, bAdd, bSub, c_lt, c_le, c_gt, c_ge, c_eq, c_ne, c_eqs, augD, itemsE, itemsS, isN_none, isN_bool, isN_int, isN_str, isN_tuple, isN_list, opt_none, Bool.xor_false, Bool.false_xor, Bool.true_xor, Bool.xor_true,
  List.getElem?_cons_zero, List.getElem?_cons_succ, List.getElem?_nil, List.set_cons_zero, List.set_cons_succ, List.length_cons, List.length_nil, List.map_cons, List.map_nil, Bool.true_and, Bool.and_true, Bool.not_true, Bool.not_false, Bool.and_self, List.all_nil, List.all_cons, List.nodup_nil, List.nodup_cons, List.not_mem_nil, not_false_eq_true, and_true, List.contains_nil, List.contains_eq_mem, decide_true, decide_false, Option.getD_some, Option.getD_none, m2]), fun _ => by simp only [e_law_follows_2, evSs, evS, evE, evT, evEs, evAs, evO, evC, evR, evSc, evScN, srcN, slotC, R.ok_bind, R.exc_bind, R.bad_bind, R.ok_out, R.exc_out, R.bad_out, setS, cn_im, cn_own, cn_bor, cn_chg, cn_lst, cn_dct, cn_set, datR_im, datR_lst, tru_none, tru_bool, tru_int, tru_list, tru_tuple, trd_none, trd_bool, trd_int, trd_list, trd_tuple, len_list, len_tuple, len_dct, cv_int, cv_tup1, cv_tup2, cv_lst1, cv_lst2, slD_int, slD_tuple, slD_str, slD_list,
  isi_none, isi_bool, isi_int, isi_str, isi_tuple, isi_list, isTy, arg_im, arg_own, grd_true, get_0, get_s, var_eq, mov_eq, bor_eq, mut_eq, put_eq, fin_eq, lk_eq, un_eq, var_im, var_own, mov_im, mov_own, bor_im, bor_own, bor_bor, bor_chg, mut_own, mut_chg, put_own, put_chg, puts_nil, puts_cons, app_own, app_chg, isl_list, isd_dct, fin_nil, fin_im, fin_bor, fin_own, fin_chg, out_ret, out_nx, ob_nx, ob_ret, ob_brk, ob_cnt, ul_nx, ul_ret, bp_im, bp_own, bp_t, bps_nil, bps_cons, lk_nil, lk_im, lk_bor, lk_own, lk_chg, un_nil, un_own, un_chg, un_im, un_bor, nox_ok, if_true, if_false, Bool.false_eq_true, as_nil, as_e, as_bor, as_chg,
  As.muts, As.bors, Sc.locks, Rdo.locks, Pt.slots, Pt.slotss, wipeS, backS, bAdd, bSub, c_lt, c_le, c_gt, c_ge, c_eq, c_ne, c_eqs, augD, itemsE, itemsS, isN_none, isN_bool, isN_int, isN_str, isN_tuple, isN_list, opt_none, Bool.xor_false, Bool.false_xor, Bool.true_xor, Bool.xor_true,
  List.getElem?_cons_zero, List.getElem?_cons_succ, List.getElem?_nil, List.set_cons_zero, List.set_cons_succ, List.length_cons, List.length_nil, List.map_cons, List.map_nil, Bool.true_and, Bool.and_true, Bool.not_true, Bool.not_false, Bool.and_self, List.all_nil, List.all_cons, List.nodup_nil, List.nodup_cons, List.not_mem_nil, not_false_eq_true, and_true, List.contains_nil, List.contains_eq_mem, decide_true, decide_false, Option.getD_some, Option.getD_none], rfl⟩)
    rw [List.map_cons, List.map_nil] at lp
    cases t with
    | none =>
      simp (decide := true) only [evSs, evS, evE, evT, evEs, evAs, evO, evC, evR, evSc, evScN, srcN, slotC, R.ok_bind, R.exc_bind, R.bad_bind, R.ok_out, R.exc_out, R.bad_out, setS, cn_im, cn_own, cn_bor, cn_chg, cn_lst, cn_dct, cn_set, datR_im, datR_lst, tru_none, tru_bool, tru_int, tru_list, tru_tuple, trd_none, trd_bool, trd_int, trd_list, trd_tuple, len_list, len_tuple, len_dct, cv_int, cv_tup1, cv_tup2, cv_lst1, cv_lst2, slD_int, slD_tuple, slD_str, slD_list,
  isi_none, isi_bool, isi_int, isi_str, isi_tuple, isi_list, isTy, arg_im, arg_own, grd_true, get_0, get_s, var_eq, mov_eq, bor_eq, mut_eq, put_eq, fin_eq, lk_eq, un_eq, var_im, var_own, mov_im, mov_own, bor_im, bor_own, bor_bor, bor_chg, mut_own, mut_chg, put_own, put_chg, puts_nil, puts_cons, app_own, app_chg, isl_list, isd_dct, fin_nil, fin_im, fin_bor, fin_own, fin_chg, out_ret, out_nx, ob_nx, ob_ret, ob_brk, ob_cnt, ul_nx, ul_ret, bp_im, bp_own, bp_t, bps_nil, bps_cons, lk_nil, lk_im, lk_bor, lk_own, lk_chg, un_nil, un_own, un_chg, un_im, un_bor, nox_ok, if_true, if_false, Bool.false_eq_true, as_nil, as_e, as_bor, as_chg,
  As.muts, As.bors, Sc.locks, Rdo.locks, Pt.slots, Pt.slotss, wipeS, backS, bAdd, bSub, c_lt, c_le, c_gt, c_ge, c_eq, c_ne, c_eqs, augD, itemsE, itemsS, isN_none, isN_bool, isN_int, isN_str, isN_tuple, isN_list, opt_none, Bool.xor_false, Bool.false_xor, Bool.true_xor, Bool.xor_true,
  List.getElem?_cons_zero, List.getElem?_cons_succ, List.getElem?_nil, List.set_cons_zero, List.set_cons_succ, List.length_cons, List.length_nil, List.map_cons, List.map_nil, Bool.true_and, Bool.and_true, Bool.not_true, Bool.not_false, Bool.and_self, List.all_nil, List.all_cons, List.nodup_nil, List.nodup_cons, List.not_mem_nil, not_false_eq_true, and_true, List.contains_nil, List.contains_eq_mem, decide_true, decide_false, Option.getD_some, Option.getD_none, ob_kind, Ob.kindS, weak_2, lp, fin, List.filter_cons, List.filter_nil]
      rfl
    | some x =>
      by_cases hx : x ∈ gone
      · have e : (Ob.weak n (some x)).led got gone = [] := if_pos hx
        rw [e]
        simp (decide := true) only [evSs, evS, evE, evT, evEs, evAs, evO, evC, evR, evSc, evScN, srcN, slotC, R.ok_bind, R.exc_bind, R.bad_bind, R.ok_out, R.exc_out, R.bad_out, setS, cn_im, cn_own, cn_bor, cn_chg, cn_lst, cn_dct, cn_set, datR_im, datR_lst, tru_none, tru_bool, tru_int, tru_list, tru_tuple, trd_none, trd_bool, trd_int, trd_list, trd_tuple, len_list, len_tuple, len_dct, cv_int, cv_tup1, cv_tup2, cv_lst1, cv_lst2, slD_int, slD_tuple, slD_str, slD_list,
  isi_none, isi_bool, isi_int, isi_str, isi_tuple, isi_list, isTy, arg_im, arg_own, grd_true, get_0, get_s, var_eq, mov_eq, bor_eq, mut_eq, put_eq, fin_eq, lk_eq, un_eq, var_im, var_own, mov_im, mov_own, bor_im, bor_own, bor_bor, bor_chg, mut_own, mut_chg, put_own, put_chg, puts_nil, puts_cons, app_own, app_chg, isl_list, isd_dct, fin_nil, fin_im, fin_bor, fin_own, fin_chg, out_ret, out_nx, ob_nx, ob_ret, ob_brk, ob_cnt, ul_nx, ul_ret, bp_im, bp_own, bp_t, bps_nil, bps_cons, lk_nil, lk_im, lk_bor, lk_own, lk_chg, un_nil, un_own, un_chg, un_im, un_bor, nox_ok, if_true, if_false, Bool.false_eq_true, as_nil, as_e, as_bor, as_chg,
  As.muts, As.bors, Sc.locks, Rdo.locks, Pt.slots, Pt.slotss, wipeS, backS, bAdd, bSub, c_lt, c_le, c_gt, c_ge, c_eq, c_ne, c_eqs, augD, itemsE, itemsS, isN_none, isN_bool, isN_int, isN_str, isN_tuple, isN_list, opt_none, Bool.xor_false, Bool.false_xor, Bool.true_xor, Bool.xor_true,
  List.getElem?_cons_zero, List.getElem?_cons_succ, List.getElem?_nil, List.set_cons_zero, List.set_cons_succ, List.length_cons, List.length_nil, List.map_cons, List.map_nil, Bool.true_and, Bool.and_true, Bool.not_true, Bool.not_false, Bool.and_self, List.all_nil, List.all_cons, List.nodup_nil, List.nodup_cons, List.not_mem_nil, not_false_eq_true, and_true, List.contains_nil, List.contains_eq_mem, decide_true, decide_false, Option.getD_some, Option.getD_none, ob_kind, Ob.kindS, weak_2, lp, fin, List.filter_cons, List.filter_nil, hx]
      · have e : (Ob.weak n (some x)).led got gone = [x] := if_neg hx
        rw [e]
        simp (decide := true) only [evSs, evS, evE, evT, evEs, evAs, evO, evC, evR, evSc, evScN, srcN, slotC, R.ok_bind, R.exc_bind, R.bad_bind, R.ok_out, R.exc_out, R.bad_out, setS, cn_im, cn_own, cn_bor, cn_chg, cn_lst, cn_dct, cn_set, datR_im, datR_lst, tru_none, tru_bool, tru_int, tru_list, tru_tuple, trd_none, trd_bool, trd_int, trd_list, trd_tuple, len_list, len_tuple, len_dct, cv_int, cv_tup1, cv_tup2, cv_lst1, cv_lst2, slD_int, slD_tuple, slD_str, slD_list,
  isi_none, isi_bool, isi_int, isi_str, isi_tuple, isi_list, isTy, arg_im, arg_own, grd_true, get_0, get_s, var_eq, mov_eq, bor_eq, mut_eq, put_eq, fin_eq, lk_eq, un_eq, var_im, var_own, mov_im, mov_own, bor_im, bor_own, bor_bor, bor_chg, mut_own, mut_chg, put_own, put_chg, puts_nil, puts_cons, app_own, app_chg, isl_list, isd_dct, fin_nil, fin_im, fin_bor, fin_own, fin_chg, out_ret, out_nx, ob_nx, ob_ret, ob_brk, ob_cnt, ul_nx, ul_ret, bp_im, bp_own, bp_t, bps_nil, bps_cons, lk_nil, lk_im, lk_bor, lk_own, lk_chg, un_nil, un_own, un_chg, un_im, un_bor, nox_ok, if_true, if_false, Bool.false_eq_true, as_nil, as_e, as_bor, as_chg,
  As.muts, As.bors, Sc.locks, Rdo.locks, Pt.slots, Pt.slotss, wipeS, backS, bAdd, bSub, c_lt, c_le, c_gt, c_ge, c_eq, c_ne, c_eqs, augD, itemsE, itemsS, isN_none, isN_bool, isN_int, isN_str, isN_tuple, isN_list, opt_none, Bool.xor_false, Bool.false_xor, Bool.true_xor, Bool.xor_true,
  List.getElem?_cons_zero, List.getElem?_cons_succ, List.getElem?_nil, List.set_cons_zero, List.set_cons_succ, List.length_cons, List.length_nil, List.map_cons, List.map_nil, Bool.true_and, Bool.and_true, Bool.not_true, Bool.not_false, Bool.and_self, List.all_nil, List.all_cons, List.nodup_nil, List.nodup_cons, List.not_mem_nil, not_false_eq_true, and_true, List.contains_nil, List.contains_eq_mem, decide_true, decide_false, Option.getD_some, Option.getD_none, ob_kind, Ob.kindS, weak_2, lp, fin, List.filter_cons, List.filter_nil, hx]
        rfl
  | tab n es =>
    have lp := fun n' => loopC_g (p := .v 3) (own := [3]) (ρ := [some (.im (Ob.tab n es).d), some s1, some s2, none, none]) (c := evC n' c_law_follows_1) (f := fun ρ => datR (evE n' e_law_follows_0 ρ)) entD (fun e => [some (.im (Ob.tab n es).d), some s1, some s2, some (.im (entD e)), none]) (fun e => decide (e.1 ∈ got)) (fun e => PyData.int e.2) es
      (fun e _ => ⟨bp_im, by simp only [c_law_follows_1, evSs, evS, evE, evT, evEs, evAs, evO, evC, evR, evSc, evScN, srcN, slotC, R.ok_bind, R.exc_bind, R.bad_bind, R.ok_out, R.exc_out, R.bad_out, setS, cn_im, cn_own, cn_bor, cn_chg, cn_lst, cn_dct, cn_set, datR_im, datR_lst, tru_none, tru_bool, tru_int, tru_list, tru_tuple, trd_none, trd_bool, trd_int, trd_list, trd_tuple, len_list, len_tuple, len_dct, cv_int, cv_tup1, cv_tup2, cv_lst1, cv_lst2, slD_int, slD_tuple, slD_str, slD_list,
  isi_none, isi_bool, isi_int, isi_str, isi_tuple, isi_list, isTy, arg_im, arg_own, grd_true, get_0, get_s, var_eq, mov_eq, bor_eq, mut_eq, put_eq, fin_eq, lk_eq, un_eq, var_im, var_own, mov_im, mov_own, bor_im, bor_own, bor_bor, bor_chg, mut_own, mut_chg, put_own, put_chg, puts_nil, puts_cons, app_own, app_chg, isl_list, isd_dct, fin_nil, fin_im, fin_bor, fin_own, fin_chg, out_ret, out_nx, ob_nx, ob_ret, ob_brk, ob_cnt, ul_nx, ul_ret, bp_im, bp_own, bp_t, bps_nil, bps_cons, lk_nil, lk_im, lk_bor, lk_own, lk_chg, un_nil, un_own, un_chg, un_im, un_bor, nox_ok, if_true, if_false, Bool.false_eq_true, as_nil, as_e, as_bor, as_chg,
  As.muts, As.bors, Sc.locks, Rdo.locks, Pt.slots, Pt.slotss, wipeS, backS, bAdd, bSub, c_lt, c_le, c_gt, c_ge, c_eq, c_ne, c_eqs, augD, itemsE, itemsS, isN_none, isN_bool, isN_int, isN_str, isN_tuple, isN_list, opt_none, Bool.xor_false, Bool.false_xor, Bool.true_xor, Bool.xor_true,
  List.getElem?_cons_zero, List.getElem?_cons_succ, List.getElem?_nil, List.set_cons_zero, List.set_cons_succ, List.length_cons, List.length_nil, List.map_cons, List.map_nil, Bool.true_and, Bool.and_true, Bool.not_true, Bool.not_false, Bool.and_self, List.all_nil, List.all_cons, List.nodup_nil, List.nodup_cons, List.not_mem_nil, not_false_eq_true, and_true, List.contains_nil, List.contains_eq_mem, decide_true, decide_false, Option.getD_some, Option.getD_none, ent_0, m1], fun _ => by simp only [e_law_follows_0, evSs, evS, evE, evT, evEs, evAs, evO, evC, evR, evSc, evScN, srcN, slotC, R.ok_bind, R.exc_bind, R.bad_bind, R.ok_out, R.exc_out, R.bad_out, setS, cn_im, cn_own, cn_bor, cn_chg, cn_lst, cn_dct, cn_set, datR_im, datR_lst, tru_none, tru_bool, tru_int, tru_list, tru_tuple, trd_none, trd_bool, trd_int, trd_list, trd_tuple, len_list, len_tuple, len_dct, cv_int, cv_tup1, cv_tup2, cv_lst1, cv_lst2, slD_int, slD_tuple, slD_str, slD_list,
  isi_none, isi_bool, isi_int, isi_str, isi_tuple, isi_list, isTy, arg_im, arg_own, grd_true, get_0, get_s, var_eq, mov_eq, bor_eq, mut_eq, put_eq, fin_eq, lk_eq, un_eq, var_im, var_own, mov_im, mov_own, bor_im, bor_own, bor_bor, bor_chg, mut_own, mut_chg, put_own, put_chg, puts_nil, puts_cons, app_own, app_chg, isl_list, isd_dct, fin_nil, fin_im, fin_bor, fin_own, fin_chg, out_ret, out_nx, ob_nx, ob_ret, ob_brk, ob_cnt, ul_nx, ul_ret, bp_im, bp_own, bp_t, bps_nil, bps_cons, lk_nil, lk_im, lk_bor, lk_own, lk_chg, un_nil, un_own, un_chg, un_im, un_bor, nox_ok, if_true, if_false, Bool.false_eq_true, as_nil, as_e, as_bor, as_chg,
  As.muts, As.bors, Sc.locks, Rdo.locks, Pt.slots, Pt.slotss, wipeS, backS, bAdd, bSub, c_lt, c_le, c_gt, c_ge, c_eq, c_ne, c_eqs, augD, itemsE, itemsS, isN_none, isN_bool, isN_int, isN_str, isN_tuple, isN_list, opt_none, Bool.xor_false, Bool.false_xor, Bool.true_xor, Bool.xor_true,
  List.getElem?_cons_zero, List.getElem?_cons_succ, List.getElem?_nil, List.set_cons_zero, List.set_cons_succ, List.length_cons, List.length_nil, List.map_cons, List.map_nil, Bool.true_and, Bool.and_true, Bool.not_true, Bool.not_false, Bool.and_self, List.all_nil, List.all_cons, List.nodup_nil, List.nodup_cons, List.not_mem_nil, not_false_eq_true, and_true, List.contains_nil, List.contains_eq_mem, decide_true, decide_false, Option.getD_some, Option.getD_none, ent_1], rfl⟩)
    have l1 : (es.filter fun e => decide (e.1 ∈ got)).length ≤ lineN := by have := List.length_filter_le (fun e : Int × Int => decide (e.1 ∈ got)) es; have := ho.2.2; unfold lineN; omega
    simp (decide := true) only [evSs, evS, evE, evT, evEs, evAs, evO, evC, evR, evSc, evScN, srcN, slotC, R.ok_bind, R.exc_bind, R.bad_bind, R.ok_out, R.exc_out, R.bad_out, setS, cn_im, cn_own, cn_bor, cn_chg, cn_lst, cn_dct, cn_set, datR_im, datR_lst, tru_none, tru_bool, tru_int, tru_list, tru_tuple, trd_none, trd_bool, trd_int, trd_list, trd_tuple, len_list, len_tuple, len_dct, cv_int, cv_tup1, cv_tup2, cv_lst1, cv_lst2, slD_int, slD_tuple, slD_str, slD_list,
  isi_none, isi_bool, isi_int, isi_str, isi_tuple, isi_list, isTy, arg_im, arg_own, grd_true, get_0, get_s, var_eq, mov_eq, bor_eq, mut_eq, put_eq, fin_eq, lk_eq, un_eq, var_im, var_own, mov_im, mov_own, bor_im, bor_own, bor_bor, bor_chg, mut_own, mut_chg, put_own, put_chg, puts_nil, puts_cons, app_own, app_chg, isl_list, isd_dct, fin_nil, fin_im, fin_bor, fin_own, fin_chg, out_ret, out_nx, ob_nx, ob_ret, ob_brk, ob_cnt, ul_nx, ul_ret, bp_im, bp_own, bp_t, bps_nil, bps_cons, lk_nil, lk_im, lk_bor, lk_own, lk_chg, un_nil, un_own, un_chg, un_im, un_bor, nox_ok, if_true, if_false, Bool.false_eq_true, as_nil, as_e, as_bor, as_chg,
  As.muts, As.bors, Sc.locks, Rdo.locks, Pt.slots, Pt.slotss, wipeS, backS, bAdd, bSub, c_lt, c_le, c_gt, c_ge, c_eq, c_ne, c_eqs, augD, itemsE, itemsS, isN_none, isN_bool, isN_int, isN_str, isN_tuple, isN_list, opt_none, Bool.xor_false, Bool.false_xor, Bool.true_xor, Bool.xor_true,
  List.getElem?_cons_zero, List.getElem?_cons_succ, List.getElem?_nil, List.set_cons_zero, List.set_cons_succ, List.length_cons, List.length_nil, List.map_cons, List.map_nil, Bool.true_and, Bool.and_true, Bool.not_true, Bool.not_false, Bool.and_self, List.all_nil, List.all_cons, List.nodup_nil, List.nodup_cons, List.not_mem_nil, not_false_eq_true, and_true, List.contains_nil, List.contains_eq_mem, decide_true, decide_false, Option.getD_some, Option.getD_none, ob_kind, Ob.kindS, tab_2, lp, List.length_map, l1, fin]
    show _ = R.ok (Sl.own (.lst (((es.filter fun e => decide (e.1 ∈ got)).map (·.2)).map PyData.int)), [])
    rw [List.map_map]
    rfl
theorem led_nums {nums got gone : List Int} {o : Ob} (ho : o.Ok nums) : ∀ x ∈ o.led got gone, x ∈ nums := fun x hx => by
  have t := Ob.mem_led.mp hx
  cases o with
  | recd n fs => exact ho.1 x t
  | weak n t' => exact ho x t.1
  | tab n es => obtain ⟨e, h1, _⟩ := t; exact (ho.1 _ h1).2
structure GotOk (nums got : List Int) : Prop where
  sub : ∀ x ∈ got, x ∈ nums
  len : got.length ≤ 1000 + 1000 * cnt nums got
theorem gotOk_grow {nums got gone : List Int} {o : Ob} (ho : o.Ok nums) (g : GotOk nums got) : GotOk nums (growO gone got o) := by
  unfold growO
  split
  · rename_i hn
    refine ⟨fun x hx => ?_, ?_⟩
    · rcases List.mem_append.mp hx with q | q
      · exact g.sub x q
      · exact led_nums ho x (List.mem_filter.mp q).1
    · have l1 := led_len ho got gone
      have l2 := List.length_filter_le (fun x => decide (x ∉ got)) (o.led got gone)
      have l3 := g.len
      rw [List.length_append]
      cases e : (o.led got gone).filter fun x => decide (x ∉ got) with
      | nil => simp; exact l3
      | cons y ys =>
        have hy : y ∈ (o.led got gone).filter fun x => decide (x ∉ got) := by rw [e]; exact List.mem_cons_self
        have hy2 : y ∉ got := by simpa using (List.mem_filter.mp hy).2
        have lt := cnt_lt (got := got) (got' := got ++ y :: ys) (fun x hx => List.mem_append_left _ hx) (y := y) (by simp) hy2 nums (led_nums ho y (List.mem_filter.mp hy).1)
        rw [e] at l2
        omega
  · exact g
theorem repeat_grow (h : Hx) (gone : List Int) : ∀ (n : Nat) (got : List Int), Nat.repeat (growH h gone) n got = growN h gone n got
  | 0, _ => rfl
  | n + 1, got => by
    have : ∀ (n : Nat) s, Nat.repeat (growH h gone) n (growH h gone s) = Nat.repeat (growH h gone) (n + 1) s := fun n => by
      induction n with
      | zero => intro s; rfl
      | succ n ih => intro s; show growH h gone (Nat.repeat (growH h gone) n (growH h gone s)) = growH h gone (Nat.repeat (growH h gone) (n + 1) s); rw [ih]
    rw [← this, repeat_grow h gone n]
    rfl
section
variable {k : Nat} {h : Hx} (hk : h.Ok) {gone : List Int} {s : Sl} (hs : IntsP s gone)
include hk hs
theorem lgrow_ok {o : Ob} (ho : o ∈ h.objs) {got : List Int} (g : GotOk h.nums got) {x3 : Option Sl} :
    evSs (C (k + 1)) 200 b_law_obtainable_4 [some (.im h.d), some s, some (.own (.lst (got.map PyData.int))), x3, some (.im o.d), none] =
    .nx [some (.im h.d), some s, some (.own (.lst ((growO gone got o).map PyData.int))), x3, some (.im o.d), none] := by
  unfold b_law_obtainable_4 growO
  by_cases hn : o.num ∈ got
  · rw [if_pos hn]
    have f1 := lfollows_ok (k := k) (hk.obs o ho) (intsP_l got) hs
    have lp := loopC_g (p := .v 5) (own := [5]) (ρ := [some (.im h.d), some s, some (.im (.list (got.map PyData.int))), x3, some (.im o.d), none]) (c := evC (C (k + 1)) c_law_obtainable_3) (f := fun ρ => datR (evE (C (k + 1)) e_law_obtainable_2 ρ)) PyData.int (fun x => [some (.im h.d), some s, some (.im (.list (got.map PyData.int))), x3, some (.im o.d), some (.im (.int x))]) (fun x => !decide (x ∈ got)) PyData.int (o.led got gone)
      (fun x _ => ⟨bp_im, by simp only [c_law_obtainable_3, evSs, evS, evE, evT, evEs, evAs, evO, evC, evR, evSc, evScN, srcN, slotC, R.ok_bind, R.exc_bind, R.bad_bind, R.ok_out, R.exc_out, R.bad_out, setS, cn_im, cn_own, cn_bor, cn_chg, cn_lst, cn_dct, cn_set, datR_im, datR_lst, tru_none, tru_bool, tru_int, tru_list, tru_tuple, trd_none, trd_bool, trd_int, trd_list, trd_tuple, len_list, len_tuple, len_dct, cv_int, cv_tup1, cv_tup2, cv_lst1, cv_lst2, slD_int, slD_tuple, slD_str, slD_list,
  isi_none, isi_bool, isi_int, isi_str, isi_tuple, isi_list, isTy, arg_im, arg_own, grd_true, get_0, get_s, var_eq, mov_eq, bor_eq, mut_eq, put_eq, fin_eq, lk_eq, un_eq, var_im, var_own, mov_im, mov_own, bor_im, bor_own, bor_bor, bor_chg, mut_own, mut_chg, put_own, put_chg, puts_nil, puts_cons, app_own, app_chg, isl_list, isd_dct, fin_nil, fin_im, fin_bor, fin_own, fin_chg, out_ret, out_nx, ob_nx, ob_ret, ob_brk, ob_cnt, ul_nx, ul_ret, bp_im, bp_own, bp_t, bps_nil, bps_cons, lk_nil, lk_im, lk_bor, lk_own, lk_chg, un_nil, un_own, un_chg, un_im, un_bor, nox_ok, if_true, if_false, Bool.false_eq_true, as_nil, as_e, as_bor, as_chg,
  As.muts, As.bors, Sc.locks, Rdo.locks, Pt.slots, Pt.slotss, wipeS, backS, bAdd, bSub, c_lt, c_le, c_gt, c_ge, c_eq, c_ne, c_eqs, augD, itemsE, itemsS, isN_none, isN_bool, isN_int, isN_str, isN_tuple, isN_list, opt_none, Bool.xor_false, Bool.false_xor, Bool.true_xor, Bool.xor_true,
  List.getElem?_cons_zero, List.getElem?_cons_succ, List.getElem?_nil, List.set_cons_zero, List.set_cons_succ, List.length_cons, List.length_nil, List.map_cons, List.map_nil, Bool.true_and, Bool.and_true, Bool.not_true, Bool.not_false, Bool.and_self, List.all_nil, List.all_cons, List.nodup_nil, List.nodup_cons, List.not_mem_nil, not_false_eq_true, and_true, List.contains_nil, List.contains_eq_mem, decide_true, decide_false, Option.getD_some, Option.getD_none, mem_intsL], fun _ => by simp only [e_law_obtainable_2, evSs, evS, evE, evT, evEs, evAs, evO, evC, evR, evSc, evScN, srcN, slotC, R.ok_bind, R.exc_bind, R.bad_bind, R.ok_out, R.exc_out, R.bad_out, setS, cn_im, cn_own, cn_bor, cn_chg, cn_lst, cn_dct, cn_set, datR_im, datR_lst, tru_none, tru_bool, tru_int, tru_list, tru_tuple, trd_none, trd_bool, trd_int, trd_list, trd_tuple, len_list, len_tuple, len_dct, cv_int, cv_tup1, cv_tup2, cv_lst1, cv_lst2, slD_int, slD_tuple, slD_str, slD_list,
  isi_none, isi_bool, isi_int, isi_str, isi_tuple, isi_list, isTy, arg_im, arg_own, grd_true, get_0, get_s, var_eq, mov_eq, bor_eq, mut_eq, put_eq, fin_eq, lk_eq, un_eq, var_im, var_own, mov_im, mov_own, bor_im, bor_own, bor_bor, bor_chg, mut_own, mut_chg, put_own, put_chg, puts_nil, puts_cons, app_own, app_chg, isl_list, isd_dct, fin_nil, fin_im, fin_bor, fin_own, fin_chg, out_ret, out_nx, ob_nx, ob_ret, ob_brk, ob_cnt, ul_nx, ul_ret, bp_im, bp_own, bp_t, bps_nil, bps_cons, lk_nil, lk_im, lk_bor, lk_own, lk_chg, un_nil, un_own, un_chg, un_im, un_bor, nox_ok, if_true, if_false, Bool.false_eq_true, as_nil, as_e, as_bor, as_chg,
  As.muts, As.bors, Sc.locks, Rdo.locks, Pt.slots, Pt.slotss, wipeS, backS, bAdd, bSub, c_lt, c_le, c_gt, c_ge, c_eq, c_ne, c_eqs, augD, itemsE, itemsS, isN_none, isN_bool, isN_int, isN_str, isN_tuple, isN_list, opt_none, Bool.xor_false, Bool.false_xor, Bool.true_xor, Bool.xor_true,
  List.getElem?_cons_zero, List.getElem?_cons_succ, List.getElem?_nil, List.set_cons_zero, List.set_cons_succ, List.length_cons, List.length_nil, List.map_cons, List.map_nil, Bool.true_and, Bool.and_true, Bool.not_true, Bool.not_false, Bool.and_self, List.all_nil, List.all_cons, List.nodup_nil, List.nodup_cons, List.not_mem_nil, not_false_eq_true, and_true, List.contains_nil, List.contains_eq_mem, decide_true, decide_false, Option.getD_some, Option.getD_none], rfl⟩)
    have q1 := List.length_filter_le (fun x => !decide (x ∈ got)) (o.led got gone)
    have q2 := led_len (hk.obs o ho) got gone
    have q3 := g.len
    have q4 := cnt_le h.nums got
    have q5 := hk.few
    have l1 : ((o.led got gone).filter fun x => !decide (x ∈ got)).length ≤ lineN := by unfold lineN; omega
    have l2 : got.length + ((o.led got gone).filter fun x => !decide (x ∈ got)).length ≤ lineN := by unfold lineN; omega
    have ba : binD .add (.list (got.map PyData.int)) (.list (((o.led got gone).filter fun x => !decide (x ∈ got)).map PyData.int)) = .ok (.list ((got ++ (o.led got gone).filter fun x => !decide (x ∈ got)).map PyData.int)) := by
      show guardR (decide ((got.map PyData.int).length + (((o.led got gone).filter fun x => !decide (x ∈ got)).map PyData.int).length ≤ lineN)) _ = _
      rw [List.length_map, List.length_map, decide_eq_true l2, grd_true, List.map_append]
    have e : (fun y => decide (y ∉ got)) = fun y => !decide (y ∈ got) := by funext y; rw [decide_not]
    rw [e]
    simp (decide := true) only [evSs, evS, evE, evT, evEs, evAs, evO, evC, evR, evSc, evScN, srcN, slotC, R.ok_bind, R.exc_bind, R.bad_bind, R.ok_out, R.exc_out, R.bad_out, setS, cn_im, cn_own, cn_bor, cn_chg, cn_lst, cn_dct, cn_set, datR_im, datR_lst, tru_none, tru_bool, tru_int, tru_list, tru_tuple, trd_none, trd_bool, trd_int, trd_list, trd_tuple, len_list, len_tuple, len_dct, cv_int, cv_tup1, cv_tup2, cv_lst1, cv_lst2, slD_int, slD_tuple, slD_str, slD_list,
  isi_none, isi_bool, isi_int, isi_str, isi_tuple, isi_list, isTy, arg_im, arg_own, grd_true, get_0, get_s, var_eq, mov_eq, bor_eq, mut_eq, put_eq, fin_eq, lk_eq, un_eq, var_im, var_own, mov_im, mov_own, bor_im, bor_own, bor_bor, bor_chg, mut_own, mut_chg, put_own, put_chg, puts_nil, puts_cons, app_own, app_chg, isl_list, isd_dct, fin_nil, fin_im, fin_bor, fin_own, fin_chg, out_ret, out_nx, ob_nx, ob_ret, ob_brk, ob_cnt, ul_nx, ul_ret, bp_im, bp_own, bp_t, bps_nil, bps_cons, lk_nil, lk_im, lk_bor, lk_own, lk_chg, un_nil, un_own, un_chg, un_im, un_bor, nox_ok, if_true, if_false, Bool.false_eq_true, as_nil, as_e, as_bor, as_chg,
  As.muts, As.bors, Sc.locks, Rdo.locks, Pt.slots, Pt.slotss, wipeS, backS, bAdd, bSub, c_lt, c_le, c_gt, c_ge, c_eq, c_ne, c_eqs, augD, itemsE, itemsS, isN_none, isN_bool, isN_int, isN_str, isN_tuple, isN_list, opt_none, Bool.xor_false, Bool.false_xor, Bool.true_xor, Bool.xor_true,
  List.getElem?_cons_zero, List.getElem?_cons_succ, List.getElem?_nil, List.set_cons_zero, List.set_cons_succ, List.length_cons, List.length_nil, List.map_cons, List.map_nil, Bool.true_and, Bool.and_true, Bool.not_true, Bool.not_false, Bool.and_self, List.all_nil, List.all_cons, List.nodup_nil, List.nodup_cons, List.not_mem_nil, not_false_eq_true, and_true, List.contains_nil, List.contains_eq_mem, decide_true, decide_false, Option.getD_some, Option.getD_none, ob_num, mem_intsL, hn, f1, hs.bor, lp, List.length_map, l1, ba]
  · rw [if_neg hn]
    simp (decide := true) only [evSs, evS, evE, evT, evEs, evAs, evO, evC, evR, evSc, evScN, srcN, slotC, R.ok_bind, R.exc_bind, R.bad_bind, R.ok_out, R.exc_out, R.bad_out, setS, cn_im, cn_own, cn_bor, cn_chg, cn_lst, cn_dct, cn_set, datR_im, datR_lst, tru_none, tru_bool, tru_int, tru_list, tru_tuple, trd_none, trd_bool, trd_int, trd_list, trd_tuple, len_list, len_tuple, len_dct, cv_int, cv_tup1, cv_tup2, cv_lst1, cv_lst2, slD_int, slD_tuple, slD_str, slD_list,
  isi_none, isi_bool, isi_int, isi_str, isi_tuple, isi_list, isTy, arg_im, arg_own, grd_true, get_0, get_s, var_eq, mov_eq, bor_eq, mut_eq, put_eq, fin_eq, lk_eq, un_eq, var_im, var_own, mov_im, mov_own, bor_im, bor_own, bor_bor, bor_chg, mut_own, mut_chg, put_own, put_chg, puts_nil, puts_cons, app_own, app_chg, isl_list, isd_dct, fin_nil, fin_im, fin_bor, fin_own, fin_chg, out_ret, out_nx, ob_nx, ob_ret, ob_brk, ob_cnt, ul_nx, ul_ret, bp_im, bp_own, bp_t, bps_nil, bps_cons, lk_nil, lk_im, lk_bor, lk_own, lk_chg, un_nil, un_own, un_chg, un_im, un_bor, nox_ok, if_true, if_false, Bool.false_eq_true, as_nil, as_e, as_bor, as_chg,
  As.muts, As.bors, Sc.locks, Rdo.locks, Pt.slots, Pt.slotss, wipeS, backS, bAdd, bSub, c_lt, c_le, c_gt, c_ge, c_eq, c_ne, c_eqs, augD, itemsE, itemsS, isN_none, isN_bool, isN_int, isN_str, isN_tuple, isN_list, opt_none, Bool.xor_false, Bool.false_xor, Bool.true_xor, Bool.xor_true,
  List.getElem?_cons_zero, List.getElem?_cons_succ, List.getElem?_nil, List.set_cons_zero, List.set_cons_succ, List.length_cons, List.length_nil, List.map_cons, List.map_nil, Bool.true_and, Bool.and_true, Bool.not_true, Bool.not_false, Bool.and_self, List.all_nil, List.all_cons, List.nodup_nil, List.nodup_cons, List.not_mem_nil, not_false_eq_true, and_true, List.contains_nil, List.contains_eq_mem, decide_true, decide_false, Option.getD_some, Option.getD_none, ob_num, mem_intsL, hn]
theorem lturn_ok {x3 x4 : Option Sl} {got : List Int} (g : GotOk h.nums got) :
    ∃ x4', evSs (C (k + 1)) 200 b_law_obtainable_5 [some (.im h.d), some s, some (.own (.lst (got.map PyData.int))), x3, x4, none] =
    .nx [some (.im h.d), some s, some (.own (.lst ((growH h gone got).map PyData.int))), x3, x4', none] ∧ GotOk h.nums (growH h gone got) := by
  obtain ⟨ρ', h1, x4', h2, h3⟩ := loopF_g (p := .v 4) (b := evSs (C (k + 1)) 200 b_law_obtainable_4) Ob.d (fun (got : List Int) ρ => ∃ x4, ρ = [some (.im h.d), some s, some (.own (.lst (got.map PyData.int))), x3, x4, none] ∧ GotOk h.nums got) (growO gone) h.objs
    (fun o ho got ρ ⟨x4, h2, h3⟩ => by
      subst h2
      exact ⟨_, _, bp_im, lgrow_ok hk hs ho h3, _, rfl, gotOk_grow (hk.obs o ho) h3⟩) got [some (.im h.d), some s, some (.own (.lst (got.map PyData.int))), x3, x4, none] ⟨x4, rfl, g⟩
  subst h2
  refine ⟨x4', ?_, h3⟩
  unfold b_law_obtainable_5
  simp (decide := true) only [evSs, evS, evE, evT, evEs, evAs, evO, evC, evR, evSc, evScN, srcN, slotC, R.ok_bind, R.exc_bind, R.bad_bind, R.ok_out, R.exc_out, R.bad_out, setS, cn_im, cn_own, cn_bor, cn_chg, cn_lst, cn_dct, cn_set, datR_im, datR_lst, tru_none, tru_bool, tru_int, tru_list, tru_tuple, trd_none, trd_bool, trd_int, trd_list, trd_tuple, len_list, len_tuple, len_dct, cv_int, cv_tup1, cv_tup2, cv_lst1, cv_lst2, slD_int, slD_tuple, slD_str, slD_list,
  isi_none, isi_bool, isi_int, isi_str, isi_tuple, isi_list, isTy, arg_im, arg_own, grd_true, get_0, get_s, var_eq, mov_eq, bor_eq, mut_eq, put_eq, fin_eq, lk_eq, un_eq, var_im, var_own, mov_im, mov_own, bor_im, bor_own, bor_bor, bor_chg, mut_own, mut_chg, put_own, put_chg, puts_nil, puts_cons, app_own, app_chg, isl_list, isd_dct, fin_nil, fin_im, fin_bor, fin_own, fin_chg, out_ret, out_nx, ob_nx, ob_ret, ob_brk, ob_cnt, ul_nx, ul_ret, bp_im, bp_own, bp_t, bps_nil, bps_cons, lk_nil, lk_im, lk_bor, lk_own, lk_chg, un_nil, un_own, un_chg, un_im, un_bor, nox_ok, if_true, if_false, Bool.false_eq_true, as_nil, as_e, as_bor, as_chg,
  As.muts, As.bors, Sc.locks, Rdo.locks, Pt.slots, Pt.slotss, wipeS, backS, bAdd, bSub, c_lt, c_le, c_gt, c_ge, c_eq, c_ne, c_eqs, augD, itemsE, itemsS, isN_none, isN_bool, isN_int, isN_str, isN_tuple, isN_list, opt_none, Bool.xor_false, Bool.false_xor, Bool.true_xor, Bool.xor_true,
  List.getElem?_cons_zero, List.getElem?_cons_succ, List.getElem?_nil, List.set_cons_zero, List.set_cons_succ, List.length_cons, List.length_nil, List.map_cons, List.map_nil, Bool.true_and, Bool.and_true, Bool.not_true, Bool.not_false, Bool.and_self, List.all_nil, List.all_cons, List.nodup_nil, List.nodup_cons, List.not_mem_nil, not_false_eq_true, and_true, List.contains_nil, List.contains_eq_mem, decide_true, decide_false, Option.getD_some, Option.getD_none, hx_4, h1]
  rfl
theorem lobtainable_ok : C (k + 2) i_law_obtainable [.im h.d, s] = .ok (.own (.lst ((h.obt gone).map PyData.int)), []) := by
  have key : ∀ ρ, startS db_law_obtainable.fd [.im h.d, s] = ρ → C (k + 1 + 1) i_law_obtainable [.im h.d, s] = outCall [.im h.d, s] (evSs (C (k + 1)) 200 b_law_obtainable ρ) := fun ρ h => call_unf (k := k + 1) (d := db_law_obtainable) rfl rfl ρ h
  rw [key [some (.im h.d), some (s), none, none, none, none] rfl]
  unfold b_law_obtainable
  have fin : ∀ ρ, finals ρ 0 [.im h.d, s] = .ok [] := fun ρ => by rw [fin_im, hs.fin, fin_nil]
  have lp := loopC_g (p := .v 5) (own := [5]) (ρ := [some (.im h.d), some s, none, none, none, none]) (c := evC (C (k + 1)) c_law_obtainable_7) (f := fun ρ => datR (evE (C (k + 1)) e_law_obtainable_6 ρ)) optD (fun r => [some (.im h.d), some s, none, none, none, some (.im (optD r))]) (fun r => !r.isNone) optD h.regs
    (fun r _ => ⟨bp_im, by simp only [c_law_obtainable_7, evSs, evS, evE, evT, evEs, evAs, evO, evC, evR, evSc, evScN, srcN, slotC, R.ok_bind, R.exc_bind, R.bad_bind, R.ok_out, R.exc_out, R.bad_out, setS, cn_im, cn_own, cn_bor, cn_chg, cn_lst, cn_dct, cn_set, datR_im, datR_lst, tru_none, tru_bool, tru_int, tru_list, tru_tuple, trd_none, trd_bool, trd_int, trd_list, trd_tuple, len_list, len_tuple, len_dct, cv_int, cv_tup1, cv_tup2, cv_lst1, cv_lst2, slD_int, slD_tuple, slD_str, slD_list,
  isi_none, isi_bool, isi_int, isi_str, isi_tuple, isi_list, isTy, arg_im, arg_own, grd_true, get_0, get_s, var_eq, mov_eq, bor_eq, mut_eq, put_eq, fin_eq, lk_eq, un_eq, var_im, var_own, mov_im, mov_own, bor_im, bor_own, bor_bor, bor_chg, mut_own, mut_chg, put_own, put_chg, puts_nil, puts_cons, app_own, app_chg, isl_list, isd_dct, fin_nil, fin_im, fin_bor, fin_own, fin_chg, out_ret, out_nx, ob_nx, ob_ret, ob_brk, ob_cnt, ul_nx, ul_ret, bp_im, bp_own, bp_t, bps_nil, bps_cons, lk_nil, lk_im, lk_bor, lk_own, lk_chg, un_nil, un_own, un_chg, un_im, un_bor, nox_ok, if_true, if_false, Bool.false_eq_true, as_nil, as_e, as_bor, as_chg,
  As.muts, As.bors, Sc.locks, Rdo.locks, Pt.slots, Pt.slotss, wipeS, backS, bAdd, bSub, c_lt, c_le, c_gt, c_ge, c_eq, c_ne, c_eqs, augD, itemsE, itemsS, isN_none, isN_bool, isN_int, isN_str, isN_tuple, isN_list, opt_none, Bool.xor_false, Bool.false_xor, Bool.true_xor, Bool.xor_true,
  List.getElem?_cons_zero, List.getElem?_cons_succ, List.getElem?_nil, List.set_cons_zero, List.set_cons_succ, List.length_cons, List.length_nil, List.map_cons, List.map_nil, Bool.true_and, Bool.and_true, Bool.not_true, Bool.not_false, Bool.and_self, List.all_nil, List.all_cons, List.nodup_nil, List.nodup_cons, List.not_mem_nil, not_false_eq_true, and_true, List.contains_nil, List.contains_eq_mem, decide_true, decide_false, Option.getD_some, Option.getD_none], fun _ => by simp only [e_law_obtainable_6, evSs, evS, evE, evT, evEs, evAs, evO, evC, evR, evSc, evScN, srcN, slotC, R.ok_bind, R.exc_bind, R.bad_bind, R.ok_out, R.exc_out, R.bad_out, setS, cn_im, cn_own, cn_bor, cn_chg, cn_lst, cn_dct, cn_set, datR_im, datR_lst, tru_none, tru_bool, tru_int, tru_list, tru_tuple, trd_none, trd_bool, trd_int, trd_list, trd_tuple, len_list, len_tuple, len_dct, cv_int, cv_tup1, cv_tup2, cv_lst1, cv_lst2, slD_int, slD_tuple, slD_str, slD_list,
  isi_none, isi_bool, isi_int, isi_str, isi_tuple, isi_list, isTy, arg_im, arg_own, grd_true, get_0, get_s, var_eq, mov_eq, bor_eq, mut_eq, put_eq, fin_eq, lk_eq, un_eq, var_im, var_own, mov_im, mov_own, bor_im, bor_own, bor_bor, bor_chg, mut_own, mut_chg, put_own, put_chg, puts_nil, puts_cons, app_own, app_chg, isl_list, isd_dct, fin_nil, fin_im, fin_bor, fin_own, fin_chg, out_ret, out_nx, ob_nx, ob_ret, ob_brk, ob_cnt, ul_nx, ul_ret, bp_im, bp_own, bp_t, bps_nil, bps_cons, lk_nil, lk_im, lk_bor, lk_own, lk_chg, un_nil, un_own, un_chg, un_im, un_bor, nox_ok, if_true, if_false, Bool.false_eq_true, as_nil, as_e, as_bor, as_chg,
  As.muts, As.bors, Sc.locks, Rdo.locks, Pt.slots, Pt.slotss, wipeS, backS, bAdd, bSub, c_lt, c_le, c_gt, c_ge, c_eq, c_ne, c_eqs, augD, itemsE, itemsS, isN_none, isN_bool, isN_int, isN_str, isN_tuple, isN_list, opt_none, Bool.xor_false, Bool.false_xor, Bool.true_xor, Bool.xor_true,
  List.getElem?_cons_zero, List.getElem?_cons_succ, List.getElem?_nil, List.set_cons_zero, List.set_cons_succ, List.length_cons, List.length_nil, List.map_cons, List.map_nil, Bool.true_and, Bool.and_true, Bool.not_true, Bool.not_false, Bool.and_self, List.all_nil, List.all_cons, List.nodup_nil, List.nodup_cons, List.not_mem_nil, not_false_eq_true, and_true, List.contains_nil, List.contains_eq_mem, decide_true, decide_false, Option.getD_some, Option.getD_none], rfl⟩)
  rw [opt_held] at lp
  have q1 := List.length_filterMap_le id h.regs
  have q2 := hk.fewR
  have l1 : (h.regs.filterMap id).length ≤ lineN := by unfold lineN; omega
  have g0 : GotOk h.nums (h.regs.filterMap id) := ⟨fun x hx => hk.rgs x (by simpa using hx), by omega⟩
  obtain ⟨ρ', h1, x3, x4, h2, h3⟩ := loopF_n (j := 3) (b := evSs (C (k + 1)) 200 b_law_obtainable_5) (fun (got : List Int) ρ => ∃ x3 x4, ρ = [some (.im h.d), some s, some (.own (.lst (got.map PyData.int))), x3, x4, none] ∧ GotOk h.nums got) (growH h gone)
    (fun i got ρ ⟨x3, x4, h2, h3⟩ => by
      subst h2
      obtain ⟨x4', h4, h5⟩ := lturn_ok (k := k) hk hs (x3 := some (.im (.int i))) (x4 := x4) h3
      exact ⟨_, h4, _, _, rfl, h5⟩) (h.objs.length + 1) 0 (h.regs.filterMap id) [some (.im h.d), some s, some (.own (.lst ((h.regs.filterMap id).map PyData.int))), none, none, none] ⟨none, none, rfl, g0⟩
  subst h2
  rw [repeat_grow] at h1 h3
  have ln := lnumbers_ok (k := k) hk
  have l2 := loopC_g (p := .v 5) (own := [5]) (ρ := [some (.im h.d), some s, some (.own (.lst ((growN h gone (h.objs.length + 1) (h.regs.filterMap id)).map PyData.int))), x3, x4, none]) (c := evC (C (k + 1)) c_law_obtainable_1) (f := fun ρ => datR (evE (C (k + 1)) e_law_obtainable_0 ρ)) PyData.int (fun x => [some (.im h.d), some s, some (.own (.lst ((growN h gone (h.objs.length + 1) (h.regs.filterMap id)).map PyData.int))), x3, x4, some (.im (.int x))]) (fun x => decide (x ∈ growN h gone (h.objs.length + 1) (h.regs.filterMap id))) PyData.int h.nums
    (fun x _ => ⟨bp_im, by simp only [c_law_obtainable_1, evSs, evS, evE, evT, evEs, evAs, evO, evC, evR, evSc, evScN, srcN, slotC, R.ok_bind, R.exc_bind, R.bad_bind, R.ok_out, R.exc_out, R.bad_out, setS, cn_im, cn_own, cn_bor, cn_chg, cn_lst, cn_dct, cn_set, datR_im, datR_lst, tru_none, tru_bool, tru_int, tru_list, tru_tuple, trd_none, trd_bool, trd_int, trd_list, trd_tuple, len_list, len_tuple, len_dct, cv_int, cv_tup1, cv_tup2, cv_lst1, cv_lst2, slD_int, slD_tuple, slD_str, slD_list,
  isi_none, isi_bool, isi_int, isi_str, isi_tuple, isi_list, isTy, arg_im, arg_own, grd_true, get_0, get_s, var_eq, mov_eq, bor_eq, mut_eq, put_eq, fin_eq, lk_eq, un_eq, var_im, var_own, mov_im, mov_own, bor_im, bor_own, bor_bor, bor_chg, mut_own, mut_chg, put_own, put_chg, puts_nil, puts_cons, app_own, app_chg, isl_list, isd_dct, fin_nil, fin_im, fin_bor, fin_own, fin_chg, out_ret, out_nx, ob_nx, ob_ret, ob_brk, ob_cnt, ul_nx, ul_ret, bp_im, bp_own, bp_t, bps_nil, bps_cons, lk_nil, lk_im, lk_bor, lk_own, lk_chg, un_nil, un_own, un_chg, un_im, un_bor, nox_ok, if_true, if_false, Bool.false_eq_true, as_nil, as_e, as_bor, as_chg,
  As.muts, As.bors, Sc.locks, Rdo.locks, Pt.slots, Pt.slotss, wipeS, backS, bAdd, bSub, c_lt, c_le, c_gt, c_ge, c_eq, c_ne, c_eqs, augD, itemsE, itemsS, isN_none, isN_bool, isN_int, isN_str, isN_tuple, isN_list, opt_none, Bool.xor_false, Bool.false_xor, Bool.true_xor, Bool.xor_true,
  List.getElem?_cons_zero, List.getElem?_cons_succ, List.getElem?_nil, List.set_cons_zero, List.set_cons_succ, List.length_cons, List.length_nil, List.map_cons, List.map_nil, Bool.true_and, Bool.and_true, Bool.not_true, Bool.not_false, Bool.and_self, List.all_nil, List.all_cons, List.nodup_nil, List.nodup_cons, List.not_mem_nil, not_false_eq_true, and_true, List.contains_nil, List.contains_eq_mem, decide_true, decide_false, Option.getD_some, Option.getD_none, mem_intsL], fun _ => by simp only [e_law_obtainable_0, evSs, evS, evE, evT, evEs, evAs, evO, evC, evR, evSc, evScN, srcN, slotC, R.ok_bind, R.exc_bind, R.bad_bind, R.ok_out, R.exc_out, R.bad_out, setS, cn_im, cn_own, cn_bor, cn_chg, cn_lst, cn_dct, cn_set, datR_im, datR_lst, tru_none, tru_bool, tru_int, tru_list, tru_tuple, trd_none, trd_bool, trd_int, trd_list, trd_tuple, len_list, len_tuple, len_dct, cv_int, cv_tup1, cv_tup2, cv_lst1, cv_lst2, slD_int, slD_tuple, slD_str, slD_list,
  isi_none, isi_bool, isi_int, isi_str, isi_tuple, isi_list, isTy, arg_im, arg_own, grd_true, get_0, get_s, var_eq, mov_eq, bor_eq, mut_eq, put_eq, fin_eq, lk_eq, un_eq, var_im, var_own, mov_im, mov_own, bor_im, bor_own, bor_bor, bor_chg, mut_own, mut_chg, put_own, put_chg, puts_nil, puts_cons, app_own, app_chg, isl_list, isd_dct, fin_nil, fin_im, fin_bor, fin_own, fin_chg, out_ret, out_nx, ob_nx, ob_ret, ob_brk, ob_cnt, ul_nx, ul_ret, bp_im, bp_own, bp_t, bps_nil, bps_cons, lk_nil, lk_im, lk_bor, lk_own, lk_chg, un_nil, un_own, un_chg, un_im, un_bor, nox_ok, if_true, if_false, Bool.false_eq_true, as_nil, as_e, as_bor, as_chg,
  As.muts, As.bors, Sc.locks, Rdo.locks, Pt.slots, Pt.slotss, wipeS, backS, bAdd, bSub, c_lt, c_le, c_gt, c_ge, c_eq, c_ne, c_eqs, augD, itemsE, itemsS, isN_none, isN_bool, isN_int, isN_str, isN_tuple, isN_list, opt_none, Bool.xor_false, Bool.false_xor, Bool.true_xor, Bool.xor_true,
  List.getElem?_cons_zero, List.getElem?_cons_succ, List.getElem?_nil, List.set_cons_zero, List.set_cons_succ, List.length_cons, List.length_nil, List.map_cons, List.map_nil, Bool.true_and, Bool.and_true, Bool.not_true, Bool.not_false, Bool.and_self, List.all_nil, List.all_cons, List.nodup_nil, List.nodup_cons, List.not_mem_nil, not_false_eq_true, and_true, List.contains_nil, List.contains_eq_mem, decide_true, decide_false, Option.getD_some, Option.getD_none], rfl⟩)
  rw [grow_obt hk] at l2
  have q4 : (h.obt gone).length ≤ h.nums.length := List.length_filter_le ..
  have q5 := hk.few
  have l3 : (h.obt gone).length ≤ lineN := by unfold lineN; omega
  have up := Hx.obt_up hk (g := gone)
  have l4 : cvC .srt (.dat (.list ((h.obt gone).map PyData.int))) = .ok (.own (.lst ((h.obt gone).map PyData.int))) := by
    show (guardR (((h.obt gone).map PyData.int).all isIntD) (R.ok (((h.obt gone).map PyData.int).mergeSort leD)) >>= fun xs => R.ok (Sl.own (.lst xs))) = _
    rw [all_int, grd_true, sort_ints (up.imp fun h e => by omega) up fun x => Iff.rfl]
    rfl
  have q6 : h.objs.length = h.nums.length := by unfold Hx.nums; rw [List.length_map]
  have r1 : range62 ((h.objs.length : Int) + 1) = true := r62_int (by omega) (by omega)
  have e1 : ((h.objs.length : Int) + 1).toNat = h.objs.length + 1 := by omega
  simp (decide := true) only [evSs, evS, evE, evT, evEs, evAs, evO, evC, evR, evSc, evScN, srcN, slotC, R.ok_bind, R.exc_bind, R.bad_bind, R.ok_out, R.exc_out, R.bad_out, setS, cn_im, cn_own, cn_bor, cn_chg, cn_lst, cn_dct, cn_set, datR_im, datR_lst, tru_none, tru_bool, tru_int, tru_list, tru_tuple, trd_none, trd_bool, trd_int, trd_list, trd_tuple, len_list, len_tuple, len_dct, cv_int, cv_tup1, cv_tup2, cv_lst1, cv_lst2, slD_int, slD_tuple, slD_str, slD_list,
  isi_none, isi_bool, isi_int, isi_str, isi_tuple, isi_list, isTy, arg_im, arg_own, grd_true, get_0, get_s, var_eq, mov_eq, bor_eq, mut_eq, put_eq, fin_eq, lk_eq, un_eq, var_im, var_own, mov_im, mov_own, bor_im, bor_own, bor_bor, bor_chg, mut_own, mut_chg, put_own, put_chg, puts_nil, puts_cons, app_own, app_chg, isl_list, isd_dct, fin_nil, fin_im, fin_bor, fin_own, fin_chg, out_ret, out_nx, ob_nx, ob_ret, ob_brk, ob_cnt, ul_nx, ul_ret, bp_im, bp_own, bp_t, bps_nil, bps_cons, lk_nil, lk_im, lk_bor, lk_own, lk_chg, un_nil, un_own, un_chg, un_im, un_bor, nox_ok, if_true, if_false, Bool.false_eq_true, as_nil, as_e, as_bor, as_chg,
  As.muts, As.bors, Sc.locks, Rdo.locks, Pt.slots, Pt.slotss, wipeS, backS, bAdd, bSub, c_lt, c_le, c_gt, c_ge, c_eq, c_ne, c_eqs, augD, itemsE, itemsS, isN_none, isN_bool, isN_int, isN_str, isN_tuple, isN_list, opt_none, Bool.xor_false, Bool.false_xor, Bool.true_xor, Bool.xor_true,
  List.getElem?_cons_zero, List.getElem?_cons_succ, List.getElem?_nil, List.set_cons_zero, List.set_cons_succ, List.length_cons, List.length_nil, List.map_cons, List.map_nil, Bool.true_and, Bool.and_true, Bool.not_true, Bool.not_false, Bool.and_self, List.all_nil, List.all_cons, List.nodup_nil, List.nodup_cons, List.not_mem_nil, not_false_eq_true, and_true, List.contains_nil, List.contains_eq_mem, decide_true, decide_false, Option.getD_some, Option.getD_none, hx_2, hx_4, lp, List.length_map, l1, r1, e1, h1, ln, l2, l3, l4, fin]
end
end K23

set_option Elab.async false
set_option linter.all false
set_option maxRecDepth 100000
set_option maxHeartbeats 0
namespace K23
open PySem PySem.Spec L2 Wk
theorem dn_C {k : Nat} : dnC (C (k + 1)) = C k := dnC_succ (by decide)
theorem make_heap_ok {k : Nat} {a b c d e : D} : C (k + 1) i_make_heap [.im a, .im b, .im c, .im d, .im e] = .ok (.im (.tuple [.str "heap", a, b, c, d, e]), []) := by
  have key : ∀ ρ, startS db_make_heap.fd [.im a, .im b, .im c, .im d, .im e] = ρ → C (k + 1) i_make_heap [.im a, .im b, .im c, .im d, .im e] = outCall [.im a, .im b, .im c, .im d, .im e] (evSs (C (k)) 200 b_make_heap ρ) := fun ρ h => call_unf (k := k) (d := db_make_heap) rfl rfl ρ h
  rw [key [some (.im a), some (.im b), some (.im c), some (.im d), some (.im e)] rfl]
  unfold b_make_heap
  simp (decide := true) only [evSs, evS, evE, evT, evEs, evAs, evO, evC, evR, evSc, evScN, srcN, slotC, R.ok_bind, R.exc_bind, R.bad_bind, R.ok_out, R.exc_out, R.bad_out, setS, cn_im, cn_own, cn_bor, cn_chg, cn_lst, cn_dct, cn_set, datR_im, datR_lst, tru_none, tru_bool, tru_int, tru_list, tru_tuple, trd_none, trd_bool, trd_int, trd_list, trd_tuple, len_list, len_tuple, len_dct, cv_int, cv_tup1, cv_tup2, cv_lst1, cv_lst2, slD_int, slD_tuple, slD_str, slD_list,
  isi_none, isi_bool, isi_int, isi_str, isi_tuple, isi_list, isTy, arg_im, arg_own, grd_true, get_0, get_s, var_eq, mov_eq, bor_eq, mut_eq, put_eq, fin_eq, lk_eq, un_eq, var_im, var_own, mov_im, mov_own, bor_im, bor_own, bor_bor, bor_chg, mut_own, mut_chg, put_own, put_chg, puts_nil, puts_cons, app_own, app_chg, isl_list, isd_dct, fin_nil, fin_im, fin_bor, fin_own, fin_chg, out_ret, out_nx, ob_nx, ob_ret, ob_brk, ob_cnt, ul_nx, ul_ret, bp_im, bp_own, bp_t, bps_nil, bps_cons, lk_nil, lk_im, lk_bor, lk_own, lk_chg, un_nil, un_own, un_chg, un_im, un_bor, nox_ok, if_true, if_false, Bool.false_eq_true, as_nil, as_e, as_bor, as_chg,
  As.muts, As.bors, Sc.locks, Rdo.locks, Pt.slots, Pt.slotss, wipeS, backS, bAdd, bSub, c_lt, c_le, c_gt, c_ge, c_eq, c_ne, c_eqs, augD, itemsE, itemsS, isN_none, isN_bool, isN_int, isN_str, isN_tuple, isN_list, opt_none, Bool.xor_false, Bool.false_xor, Bool.true_xor, Bool.xor_true,
  List.getElem?_cons_zero, List.getElem?_cons_succ, List.getElem?_nil, List.set_cons_zero, List.set_cons_succ, List.length_cons, List.length_nil, List.map_cons, List.map_nil, Bool.true_and, Bool.and_true, Bool.not_true, Bool.not_false, Bool.and_self, List.all_nil, List.all_cons, List.nodup_nil, List.nodup_cons, List.not_mem_nil, not_false_eq_true, and_true, List.contains_nil, List.contains_eq_mem, decide_true, decide_false, Option.getD_some, Option.getD_none]
theorem without_ok {k : Nat} {nums ns : List Int} {o : Ob} {s : Sl} (ho : o.Ok nums) (hs : IntsP s ns) : C (k + 1) i_without [.im o.d, s] = .ok (.im (o.wo ns).d, []) := by
  have key : ∀ ρ, startS db_without.fd [.im o.d, s] = ρ → C (k + 1) i_without [.im o.d, s] = outCall [.im o.d, s] (evSs (C (k)) 200 b_without ρ) := fun ρ h => call_unf (k := k) (d := db_without) rfl rfl ρ h
  rw [key [some (.im o.d), some (s), none, none] rfl]
  unfold b_without
  have fin : ∀ ρ, finals ρ 0 [.im o.d, s] = .ok [] := fun ρ => by rw [fin_im, hs.fin, fin_nil]
  have m1 := @IntsP.mem s ns hs
  have m2 := mem_opt hs
  cases o with
  | recd n fs =>
    have lp := fun n' => loopC_g (p := .v 3) (own := [3]) (ρ := [some (.im (Ob.recd n fs).d), some s, none, none]) (c := evC n' .no) (f := fun ρ => datR (evE n' e_without_2 ρ)) optD (fun r => [some (.im (Ob.recd n fs).d), some s, none, some (.im (optD r))]) (fun _ => true) (fun r => optD (optOut ns r)) fs
      (fun r _ => ⟨bp_im, evC_no, fun _ => by
        rw [optOut_if]
        cases e : optIn ns r <;> simp (decide := true) only [e_without_2, evSs, evS, evE, evT, evEs, evAs, evO, evC, evR, evSc, evScN, srcN, slotC, R.ok_bind, R.exc_bind, R.bad_bind, R.ok_out, R.exc_out, R.bad_out, setS, cn_im, cn_own, cn_bor, cn_chg, cn_lst, cn_dct, cn_set, datR_im, datR_lst, tru_none, tru_bool, tru_int, tru_list, tru_tuple, trd_none, trd_bool, trd_int, trd_list, trd_tuple, len_list, len_tuple, len_dct, cv_int, cv_tup1, cv_tup2, cv_lst1, cv_lst2, slD_int, slD_tuple, slD_str, slD_list,
  isi_none, isi_bool, isi_int, isi_str, isi_tuple, isi_list, isTy, arg_im, arg_own, grd_true, get_0, get_s, var_eq, mov_eq, bor_eq, mut_eq, put_eq, fin_eq, lk_eq, un_eq, var_im, var_own, mov_im, mov_own, bor_im, bor_own, bor_bor, bor_chg, mut_own, mut_chg, put_own, put_chg, puts_nil, puts_cons, app_own, app_chg, isl_list, isd_dct, fin_nil, fin_im, fin_bor, fin_own, fin_chg, out_ret, out_nx, ob_nx, ob_ret, ob_brk, ob_cnt, ul_nx, ul_ret, bp_im, bp_own, bp_t, bps_nil, bps_cons, lk_nil, lk_im, lk_bor, lk_own, lk_chg, un_nil, un_own, un_chg, un_im, un_bor, nox_ok, if_true, if_false, Bool.false_eq_true, as_nil, as_e, as_bor, as_chg,
  As.muts, As.bors, Sc.locks, Rdo.locks, Pt.slots, Pt.slotss, wipeS, backS, bAdd, bSub, c_lt, c_le, c_gt, c_ge, c_eq, c_ne, c_eqs, augD, itemsE, itemsS, isN_none, isN_bool, isN_int, isN_str, isN_tuple, isN_list, opt_none, Bool.xor_false, Bool.false_xor, Bool.true_xor, Bool.xor_true,
  List.getElem?_cons_zero, List.getElem?_cons_succ, List.getElem?_nil, List.set_cons_zero, List.set_cons_succ, List.length_cons, List.length_nil, List.map_cons, List.map_nil, Bool.true_and, Bool.and_true, Bool.not_true, Bool.not_false, Bool.and_self, List.all_nil, List.all_cons, List.nodup_nil, List.nodup_cons, List.not_mem_nil, not_false_eq_true, and_true, List.contains_nil, List.contains_eq_mem, decide_true, decide_false, Option.getD_some, Option.getD_none, m2, e], rfl⟩)
    rw [filter_all] at lp
    have l1 : fs.length ≤ lineN := by have := ho.2; unfold lineN; omega
    simp (decide := true) only [evSs, evS, evE, evT, evEs, evAs, evO, evC, evR, evSc, evScN, srcN, slotC, R.ok_bind, R.exc_bind, R.bad_bind, R.ok_out, R.exc_out, R.bad_out, setS, cn_im, cn_own, cn_bor, cn_chg, cn_lst, cn_dct, cn_set, datR_im, datR_lst, tru_none, tru_bool, tru_int, tru_list, tru_tuple, trd_none, trd_bool, trd_int, trd_list, trd_tuple, len_list, len_tuple, len_dct, cv_int, cv_tup1, cv_tup2, cv_lst1, cv_lst2, slD_int, slD_tuple, slD_str, slD_list,
  isi_none, isi_bool, isi_int, isi_str, isi_tuple, isi_list, isTy, arg_im, arg_own, grd_true, get_0, get_s, var_eq, mov_eq, bor_eq, mut_eq, put_eq, fin_eq, lk_eq, un_eq, var_im, var_own, mov_im, mov_own, bor_im, bor_own, bor_bor, bor_chg, mut_own, mut_chg, put_own, put_chg, puts_nil, puts_cons, app_own, app_chg, isl_list, isd_dct, fin_nil, fin_im, fin_bor, fin_own, fin_chg, out_ret, out_nx, ob_nx, ob_ret, ob_brk, ob_cnt, ul_nx, ul_ret, bp_im, bp_own, bp_t, bps_nil, bps_cons, lk_nil, lk_im, lk_bor, lk_own, lk_chg, un_nil, un_own, un_chg, un_im, un_bor, nox_ok, if_true, if_false, Bool.false_eq_true, as_nil, as_e, as_bor, as_chg,
  As.muts, As.bors, Sc.locks, Rdo.locks, Pt.slots, Pt.slotss, wipeS, backS, bAdd, bSub, c_lt, c_le, c_gt, c_ge, c_eq, c_ne, c_eqs, augD, itemsE, itemsS, isN_none, isN_bool, isN_int, isN_str, isN_tuple, isN_list, opt_none, Bool.xor_false, Bool.false_xor, Bool.true_xor, Bool.xor_true,
  List.getElem?_cons_zero, List.getElem?_cons_succ, List.getElem?_nil, List.set_cons_zero, List.set_cons_succ, List.length_cons, List.length_nil, List.map_cons, List.map_nil, Bool.true_and, Bool.and_true, Bool.not_true, Bool.not_false, Bool.and_self, List.all_nil, List.all_cons, List.nodup_nil, List.nodup_cons, List.not_mem_nil, not_false_eq_true, and_true, List.contains_nil, List.contains_eq_mem, decide_true, decide_false, Option.getD_some, Option.getD_none, ob_kind, Ob.kindS, ob_cut2, Ob.num, recd_2, lp, List.length_map, l1, fin, add21]
    show _ = R.ok (Sl.im (.tuple [.str "record", .int n, .tuple ((fs.map (optOut ns)).map optD)]), [])
    rw [List.map_map]
    rfl
  | weak n t =>
    have : (Ob.weak n t).wo ns = .weak n (optOut ns t) := rfl
    rw [this]
    show _ = R.ok (Sl.im (.tuple [.str "weak", .int n, optD (optOut ns t)]), [])
    rw [optOut_if]
    cases e : optIn ns t <;> simp (decide := true) only [evSs, evS, evE, evT, evEs, evAs, evO, evC, evR, evSc, evScN, srcN, slotC, R.ok_bind, R.exc_bind, R.bad_bind, R.ok_out, R.exc_out, R.bad_out, setS, cn_im, cn_own, cn_bor, cn_chg, cn_lst, cn_dct, cn_set, datR_im, datR_lst, tru_none, tru_bool, tru_int, tru_list, tru_tuple, trd_none, trd_bool, trd_int, trd_list, trd_tuple, len_list, len_tuple, len_dct, cv_int, cv_tup1, cv_tup2, cv_lst1, cv_lst2, slD_int, slD_tuple, slD_str, slD_list,
  isi_none, isi_bool, isi_int, isi_str, isi_tuple, isi_list, isTy, arg_im, arg_own, grd_true, get_0, get_s, var_eq, mov_eq, bor_eq, mut_eq, put_eq, fin_eq, lk_eq, un_eq, var_im, var_own, mov_im, mov_own, bor_im, bor_own, bor_bor, bor_chg, mut_own, mut_chg, put_own, put_chg, puts_nil, puts_cons, app_own, app_chg, isl_list, isd_dct, fin_nil, fin_im, fin_bor, fin_own, fin_chg, out_ret, out_nx, ob_nx, ob_ret, ob_brk, ob_cnt, ul_nx, ul_ret, bp_im, bp_own, bp_t, bps_nil, bps_cons, lk_nil, lk_im, lk_bor, lk_own, lk_chg, un_nil, un_own, un_chg, un_im, un_bor, nox_ok, if_true, if_false, Bool.false_eq_true, as_nil, as_e, as_bor, as_chg,
  As.muts, As.bors, Sc.locks, Rdo.locks, Pt.slots, Pt.slotss, wipeS, backS, bAdd, bSub, c_lt, c_le, c_gt, c_ge, c_eq, c_ne, c_eqs, augD, itemsE, itemsS, isN_none, isN_bool, isN_int, isN_str, isN_tuple, isN_list, opt_none, Bool.xor_false, Bool.false_xor, Bool.true_xor, Bool.xor_true,
  List.getElem?_cons_zero, List.getElem?_cons_succ, List.getElem?_nil, List.set_cons_zero, List.set_cons_succ, List.length_cons, List.length_nil, List.map_cons, List.map_nil, Bool.true_and, Bool.and_true, Bool.not_true, Bool.not_false, Bool.and_self, List.all_nil, List.all_cons, List.nodup_nil, List.nodup_cons, List.not_mem_nil, not_false_eq_true, and_true, List.contains_nil, List.contains_eq_mem, decide_true, decide_false, Option.getD_some, Option.getD_none, ob_kind, Ob.kindS, ob_cut2, Ob.num, weak_2, m2, e, fin, add21]
  | tab n es =>
    have lp := fun n' => loopC_g (p := .v 2) (own := [2]) (ρ := [some (.im (Ob.tab n es).d), some s, none, none]) (c := evC n' c_without_1) (f := fun ρ => datR (evE n' e_without_0 ρ)) entD (fun e => [some (.im (Ob.tab n es).d), some s, some (.im (entD e)), none]) (fun e => decide (e.1 ∉ ns) && decide (e.2 ∉ ns)) entD es
      (fun e _ => ⟨bp_im, (by
        by_cases h1 : e.1 ∈ ns <;> by_cases h2 : e.2 ∈ ns <;> simp (decide := true) only [c_without_1, evSs, evS, evE, evT, evEs, evAs, evO, evC, evR, evSc, evScN, srcN, slotC, R.ok_bind, R.exc_bind, R.bad_bind, R.ok_out, R.exc_out, R.bad_out, setS, cn_im, cn_own, cn_bor, cn_chg, cn_lst, cn_dct, cn_set, datR_im, datR_lst, tru_none, tru_bool, tru_int, tru_list, tru_tuple, trd_none, trd_bool, trd_int, trd_list, trd_tuple, len_list, len_tuple, len_dct, cv_int, cv_tup1, cv_tup2, cv_lst1, cv_lst2, slD_int, slD_tuple, slD_str, slD_list,
  isi_none, isi_bool, isi_int, isi_str, isi_tuple, isi_list, isTy, arg_im, arg_own, grd_true, get_0, get_s, var_eq, mov_eq, bor_eq, mut_eq, put_eq, fin_eq, lk_eq, un_eq, var_im, var_own, mov_im, mov_own, bor_im, bor_own, bor_bor, bor_chg, mut_own, mut_chg, put_own, put_chg, puts_nil, puts_cons, app_own, app_chg, isl_list, isd_dct, fin_nil, fin_im, fin_bor, fin_own, fin_chg, out_ret, out_nx, ob_nx, ob_ret, ob_brk, ob_cnt, ul_nx, ul_ret, bp_im, bp_own, bp_t, bps_nil, bps_cons, lk_nil, lk_im, lk_bor, lk_own, lk_chg, un_nil, un_own, un_chg, un_im, un_bor, nox_ok, if_true, if_false, Bool.false_eq_true, as_nil, as_e, as_bor, as_chg,
  As.muts, As.bors, Sc.locks, Rdo.locks, Pt.slots, Pt.slotss, wipeS, backS, bAdd, bSub, c_lt, c_le, c_gt, c_ge, c_eq, c_ne, c_eqs, augD, itemsE, itemsS, isN_none, isN_bool, isN_int, isN_str, isN_tuple, isN_list, opt_none, Bool.xor_false, Bool.false_xor, Bool.true_xor, Bool.xor_true,
  List.getElem?_cons_zero, List.getElem?_cons_succ, List.getElem?_nil, List.set_cons_zero, List.set_cons_succ, List.length_cons, List.length_nil, List.map_cons, List.map_nil, Bool.true_and, Bool.and_true, Bool.not_true, Bool.not_false, Bool.and_self, List.all_nil, List.all_cons, List.nodup_nil, List.nodup_cons, List.not_mem_nil, not_false_eq_true, and_true, List.contains_nil, List.contains_eq_mem, decide_true, decide_false, Option.getD_some, Option.getD_none, ent_0, ent_1, m1, h1, h2]), fun _ => by simp only [e_without_0, evSs, evS, evE, evT, evEs, evAs, evO, evC, evR, evSc, evScN, srcN, slotC, R.ok_bind, R.exc_bind, R.bad_bind, R.ok_out, R.exc_out, R.bad_out, setS, cn_im, cn_own, cn_bor, cn_chg, cn_lst, cn_dct, cn_set, datR_im, datR_lst, tru_none, tru_bool, tru_int, tru_list, tru_tuple, trd_none, trd_bool, trd_int, trd_list, trd_tuple, len_list, len_tuple, len_dct, cv_int, cv_tup1, cv_tup2, cv_lst1, cv_lst2, slD_int, slD_tuple, slD_str, slD_list,
  isi_none, isi_bool, isi_int, isi_str, isi_tuple, isi_list, isTy, arg_im, arg_own, grd_true, get_0, get_s, var_eq, mov_eq, bor_eq, mut_eq, put_eq, fin_eq, lk_eq, un_eq, var_im, var_own, mov_im, mov_own, bor_im, bor_own, bor_bor, bor_chg, mut_own, mut_chg, put_own, put_chg, puts_nil, puts_cons, app_own, app_chg, isl_list, isd_dct, fin_nil, fin_im, fin_bor, fin_own, fin_chg, out_ret, out_nx, ob_nx, ob_ret, ob_brk, ob_cnt, ul_nx, ul_ret, bp_im, bp_own, bp_t, bps_nil, bps_cons, lk_nil, lk_im, lk_bor, lk_own, lk_chg, un_nil, un_own, un_chg, un_im, un_bor, nox_ok, if_true, if_false, Bool.false_eq_true, as_nil, as_e, as_bor, as_chg,
  As.muts, As.bors, Sc.locks, Rdo.locks, Pt.slots, Pt.slotss, wipeS, backS, bAdd, bSub, c_lt, c_le, c_gt, c_ge, c_eq, c_ne, c_eqs, augD, itemsE, itemsS, isN_none, isN_bool, isN_int, isN_str, isN_tuple, isN_list, opt_none, Bool.xor_false, Bool.false_xor, Bool.true_xor, Bool.xor_true,
  List.getElem?_cons_zero, List.getElem?_cons_succ, List.getElem?_nil, List.set_cons_zero, List.set_cons_succ, List.length_cons, List.length_nil, List.map_cons, List.map_nil, Bool.true_and, Bool.and_true, Bool.not_true, Bool.not_false, Bool.and_self, List.all_nil, List.all_cons, List.nodup_nil, List.nodup_cons, List.not_mem_nil, not_false_eq_true, and_true, List.contains_nil, List.contains_eq_mem, decide_true, decide_false, Option.getD_some, Option.getD_none], rfl⟩)
    have l1 : (es.filter fun e => decide (e.1 ∉ ns) && decide (e.2 ∉ ns)).length ≤ lineN := by have := List.length_filter_le (fun e : Int × Int => decide (e.1 ∉ ns) && decide (e.2 ∉ ns)) es; have := ho.2.2; unfold lineN; omega
    simp (decide := true) only [evSs, evS, evE, evT, evEs, evAs, evO, evC, evR, evSc, evScN, srcN, slotC, R.ok_bind, R.exc_bind, R.bad_bind, R.ok_out, R.exc_out, R.bad_out, setS, cn_im, cn_own, cn_bor, cn_chg, cn_lst, cn_dct, cn_set, datR_im, datR_lst, tru_none, tru_bool, tru_int, tru_list, tru_tuple, trd_none, trd_bool, trd_int, trd_list, trd_tuple, len_list, len_tuple, len_dct, cv_int, cv_tup1, cv_tup2, cv_lst1, cv_lst2, slD_int, slD_tuple, slD_str, slD_list,
  isi_none, isi_bool, isi_int, isi_str, isi_tuple, isi_list, isTy, arg_im, arg_own, grd_true, get_0, get_s, var_eq, mov_eq, bor_eq, mut_eq, put_eq, fin_eq, lk_eq, un_eq, var_im, var_own, mov_im, mov_own, bor_im, bor_own, bor_bor, bor_chg, mut_own, mut_chg, put_own, put_chg, puts_nil, puts_cons, app_own, app_chg, isl_list, isd_dct, fin_nil, fin_im, fin_bor, fin_own, fin_chg, out_ret, out_nx, ob_nx, ob_ret, ob_brk, ob_cnt, ul_nx, ul_ret, bp_im, bp_own, bp_t, bps_nil, bps_cons, lk_nil, lk_im, lk_bor, lk_own, lk_chg, un_nil, un_own, un_chg, un_im, un_bor, nox_ok, if_true, if_false, Bool.false_eq_true, as_nil, as_e, as_bor, as_chg,
  As.muts, As.bors, Sc.locks, Rdo.locks, Pt.slots, Pt.slotss, wipeS, backS, bAdd, bSub, c_lt, c_le, c_gt, c_ge, c_eq, c_ne, c_eqs, augD, itemsE, itemsS, isN_none, isN_bool, isN_int, isN_str, isN_tuple, isN_list, opt_none, Bool.xor_false, Bool.false_xor, Bool.true_xor, Bool.xor_true,
  List.getElem?_cons_zero, List.getElem?_cons_succ, List.getElem?_nil, List.set_cons_zero, List.set_cons_succ, List.length_cons, List.length_nil, List.map_cons, List.map_nil, Bool.true_and, Bool.and_true, Bool.not_true, Bool.not_false, Bool.and_self, List.all_nil, List.all_cons, List.nodup_nil, List.nodup_cons, List.not_mem_nil, not_false_eq_true, and_true, List.contains_nil, List.contains_eq_mem, decide_true, decide_false, Option.getD_some, Option.getD_none, ob_kind, Ob.kindS, ob_cut2, Ob.num, tab_2, lp, List.length_map, l1, fin, add21]
    rfl
end K23

set_option Elab.async false
set_option linter.all false
set_option maxRecDepth 100000
set_option maxHeartbeats 0
namespace K23
open PySem PySem.Spec L2 Wk
theorem left_out_ok {k : Nat} {h : Hx} (hk : h.Ok) {n : Int} : C (k + 3) i_left_out [.im h.d, .im (.int n)] = .ok (.im (h.lo [n]).d, []) := by
  have few := hk.few
  have fewR := hk.fewR
  have en : h.nums.length = h.objs.length := by unfold Hx.nums; rw [List.length_map]
  have key : ∀ ρ, startS db_left_out.fd [.im h.d, .im (.int n)] = ρ → C (k + 2 + 1) i_left_out [.im h.d, .im (.int n)] = outCall [.im h.d, .im (.int n)] (evSs (C (k + 2)) 200 b_left_out ρ) := fun ρ h => call_unf (k := k + 2) (d := db_left_out) rfl rfl ρ h
  rw [key [some (.im h.d), some (.im (.int n)), none, none, none, none, none, none, none, none] rfl]
  unfold b_left_out
  let st (x8 x9 : Option Sl) : Sv := [some (.im h.d), some (.im (.int n)), some (.im (.str "heap")), some (.im (.int h.nx)), some (.im (.tuple (h.regs.map optD))), some (.im (intsT h.kept)), some (.im (.tuple (h.objs.map Ob.d))), some (.im (.tuple (h.wat.map entD))), x8, x9]
  have l1 := loopC_g (p := .v 8) (own := [8]) (ρ := [some (.im h.d), some (.im (.int n)), some (.im (.str "heap")), some (.im (.int h.nx)), some (.im (.tuple (h.regs.map optD))), some (.im (intsT h.kept)), some (.im (.tuple (h.objs.map Ob.d))), some (.im (.tuple (h.wat.map entD))), none, none]) (c := evC (C (k + 1)) .no) (f := fun ρ => datR (evE (C (k + 1)) e_left_out_1 ρ)) optD (fun r => st (some (.im (optD r))) none) (fun _ => true) (fun r => optD (optOut [n] r)) h.regs
    (fun r _ => ⟨bp_im, evC_no, fun _ => by
      rw [optOut_if, optIn_one]
      by_cases e : r = some n <;> simp (decide := true) only [st, e_left_out_1, evSs, evS, evE, evT, evEs, evAs, evO, evC, evR, evSc, evScN, srcN, slotC, R.ok_bind, R.exc_bind, R.bad_bind, R.ok_out, R.exc_out, R.bad_out, setS, cn_im, cn_own, cn_bor, cn_chg, cn_lst, cn_dct, cn_set, datR_im, datR_lst, tru_none, tru_bool, tru_int, tru_list, tru_tuple, trd_none, trd_bool, trd_int, trd_list, trd_tuple, len_list, len_tuple, len_dct, cv_int, cv_tup1, cv_tup2, cv_lst1, cv_lst2, slD_int, slD_tuple, slD_str, slD_list,
  isi_none, isi_bool, isi_int, isi_str, isi_tuple, isi_list, isTy, arg_im, arg_own, grd_true, get_0, get_s, var_eq, mov_eq, bor_eq, mut_eq, put_eq, fin_eq, lk_eq, un_eq, var_im, var_own, mov_im, mov_own, bor_im, bor_own, bor_bor, bor_chg, mut_own, mut_chg, put_own, put_chg, puts_nil, puts_cons, app_own, app_chg, isl_list, isd_dct, fin_nil, fin_im, fin_bor, fin_own, fin_chg, out_ret, out_nx, ob_nx, ob_ret, ob_brk, ob_cnt, ul_nx, ul_ret, bp_im, bp_own, bp_t, bps_nil, bps_cons, lk_nil, lk_im, lk_bor, lk_own, lk_chg, un_nil, un_own, un_chg, un_im, un_bor, nox_ok, if_true, if_false, Bool.false_eq_true, as_nil, as_e, as_bor, as_chg,
  As.muts, As.bors, Sc.locks, Rdo.locks, Pt.slots, Pt.slotss, wipeS, backS, bAdd, bSub, c_lt, c_le, c_gt, c_ge, c_eq, c_ne, c_eqs, augD, itemsE, itemsS, isN_none, isN_bool, isN_int, isN_str, isN_tuple, isN_list, opt_none, Bool.xor_false, Bool.false_xor, Bool.true_xor, Bool.xor_true,
  List.getElem?_cons_zero, List.getElem?_cons_succ, List.getElem?_nil, List.set_cons_zero, List.set_cons_succ, List.length_cons, List.length_nil, List.map_cons, List.map_nil, Bool.true_and, Bool.and_true, Bool.not_true, Bool.not_false, Bool.and_self, List.all_nil, List.all_cons, List.nodup_nil, List.nodup_cons, List.not_mem_nil, not_false_eq_true, and_true, List.contains_nil, List.contains_eq_mem, decide_true, decide_false, Option.getD_some, Option.getD_none, eq_opt, e], rfl⟩)
  have l2 := loopC_g (p := .v 9) (own := [9]) (ρ := [some (.im h.d), some (.im (.int n)), some (.im (.str "heap")), some (.im (.int h.nx)), some (.im (.tuple (h.regs.map optD))), some (.im (intsT h.kept)), some (.im (.tuple (h.objs.map Ob.d))), some (.im (.tuple (h.wat.map entD))), none, none]) (c := evC (C (k + 1)) .no) (f := fun ρ => datR (evE (C (k + 1)) e_left_out_0 ρ)) Ob.d (fun o => st none (some (.im o.d))) (fun _ => true) (fun o => (o.wo [n]).d) h.objs
    (fun o ho => ⟨bp_im, evC_no, fun _ => by
      have w : C (k + 1) i_without [.im o.d, .im (.tuple [.int n])] = .ok (.im (o.wo [n]).d, []) := without_ok (k := k) (hk.obs o ho) (intsP_t [n])
      simp (decide := true) only [st, e_left_out_0, evSs, evS, evE, evT, evEs, evAs, evO, evC, evR, evSc, evScN, srcN, slotC, R.ok_bind, R.exc_bind, R.bad_bind, R.ok_out, R.exc_out, R.bad_out, setS, cn_im, cn_own, cn_bor, cn_chg, cn_lst, cn_dct, cn_set, datR_im, datR_lst, tru_none, tru_bool, tru_int, tru_list, tru_tuple, trd_none, trd_bool, trd_int, trd_list, trd_tuple, len_list, len_tuple, len_dct, cv_int, cv_tup1, cv_tup2, cv_lst1, cv_lst2, slD_int, slD_tuple, slD_str, slD_list,
  isi_none, isi_bool, isi_int, isi_str, isi_tuple, isi_list, isTy, arg_im, arg_own, grd_true, get_0, get_s, var_eq, mov_eq, bor_eq, mut_eq, put_eq, fin_eq, lk_eq, un_eq, var_im, var_own, mov_im, mov_own, bor_im, bor_own, bor_bor, bor_chg, mut_own, mut_chg, put_own, put_chg, puts_nil, puts_cons, app_own, app_chg, isl_list, isd_dct, fin_nil, fin_im, fin_bor, fin_own, fin_chg, out_ret, out_nx, ob_nx, ob_ret, ob_brk, ob_cnt, ul_nx, ul_ret, bp_im, bp_own, bp_t, bps_nil, bps_cons, lk_nil, lk_im, lk_bor, lk_own, lk_chg, un_nil, un_own, un_chg, un_im, un_bor, nox_ok, if_true, if_false, Bool.false_eq_true, as_nil, as_e, as_bor, as_chg,
  As.muts, As.bors, Sc.locks, Rdo.locks, Pt.slots, Pt.slotss, wipeS, backS, bAdd, bSub, c_lt, c_le, c_gt, c_ge, c_eq, c_ne, c_eqs, augD, itemsE, itemsS, isN_none, isN_bool, isN_int, isN_str, isN_tuple, isN_list, opt_none, Bool.xor_false, Bool.false_xor, Bool.true_xor, Bool.xor_true,
  List.getElem?_cons_zero, List.getElem?_cons_succ, List.getElem?_nil, List.set_cons_zero, List.set_cons_succ, List.length_cons, List.length_nil, List.map_cons, List.map_nil, Bool.true_and, Bool.and_true, Bool.not_true, Bool.not_false, Bool.and_self, List.all_nil, List.all_cons, List.nodup_nil, List.nodup_cons, List.not_mem_nil, not_false_eq_true, and_true, List.contains_nil, List.contains_eq_mem, decide_true, decide_false, Option.getD_some, Option.getD_none, w], rfl⟩)
  rw [filter_all] at l1 l2
  have q1 : h.regs.length ≤ lineN := by unfold lineN; omega
  have q2 : h.objs.length ≤ lineN := by unfold lineN; omega
  have mh := fun a b c d e => make_heap_ok (k := k + 1) (a := a) (b := b) (c := c) (d := d) (e := e)
  have e0 : (Hx.lo h [n]).d = .tuple [.str "heap", .int h.nx, .tuple (h.regs.map fun r => optD (optOut [n] r)), intsT h.kept, .tuple (h.objs.map fun o => (o.wo [n]).d), .tuple (h.wat.map entD)] := by
    unfold Hx.lo
    rw [hx_d]
    simp only [List.map_map]
    rfl
  rw [e0]
  have b1 : ∀ Z, evSs (C (k + 2)) 200 (.cons (.asg (.t [(.v 2), (.v 3), (.v 4), (.v 5), (.v 6), (.v 7)]) (.var 0)) Z) [some (.im h.d), some (.im (.int n)), none, none, none, none, none, none, none, none] = evSs (C (k + 2)) 200 Z (st none none) := fun Z => by
    simp (decide := true) only [evSs, evS, evE, evT, evEs, evAs, evO, evC, evR, evSc, evScN, srcN, slotC, R.ok_bind, R.exc_bind, R.bad_bind, R.ok_out, R.exc_out, R.bad_out, setS, cn_im, cn_own, cn_bor, cn_chg, cn_lst, cn_dct, cn_set, datR_im, datR_lst, tru_none, tru_bool, tru_int, tru_list, tru_tuple, trd_none, trd_bool, trd_int, trd_list, trd_tuple, len_list, len_tuple, len_dct, cv_int, cv_tup1, cv_tup2, cv_lst1, cv_lst2, slD_int, slD_tuple, slD_str, slD_list,
  isi_none, isi_bool, isi_int, isi_str, isi_tuple, isi_list, isTy, arg_im, arg_own, grd_true, get_0, get_s, var_eq, mov_eq, bor_eq, mut_eq, put_eq, fin_eq, lk_eq, un_eq, var_im, var_own, mov_im, mov_own, bor_im, bor_own, bor_bor, bor_chg, mut_own, mut_chg, put_own, put_chg, puts_nil, puts_cons, app_own, app_chg, isl_list, isd_dct, fin_nil, fin_im, fin_bor, fin_own, fin_chg, out_ret, out_nx, ob_nx, ob_ret, ob_brk, ob_cnt, ul_nx, ul_ret, bp_im, bp_own, bp_t, bps_nil, bps_cons, lk_nil, lk_im, lk_bor, lk_own, lk_chg, un_nil, un_own, un_chg, un_im, un_bor, nox_ok, if_true, if_false, Bool.false_eq_true, as_nil, as_e, as_bor, as_chg,
  As.muts, As.bors, Sc.locks, Rdo.locks, Pt.slots, Pt.slotss, wipeS, backS, bAdd, bSub, c_lt, c_le, c_gt, c_ge, c_eq, c_ne, c_eqs, augD, itemsE, itemsS, isN_none, isN_bool, isN_int, isN_str, isN_tuple, isN_list, opt_none, Bool.xor_false, Bool.false_xor, Bool.true_xor, Bool.xor_true,
  List.getElem?_cons_zero, List.getElem?_cons_succ, List.getElem?_nil, List.set_cons_zero, List.set_cons_succ, List.length_cons, List.length_nil, List.map_cons, List.map_nil, Bool.true_and, Bool.and_true, Bool.not_true, Bool.not_false, Bool.and_self, List.all_nil, List.all_cons, List.nodup_nil, List.nodup_cons, List.not_mem_nil, not_false_eq_true, and_true, List.contains_nil, List.contains_eq_mem, decide_true, decide_false, Option.getD_some, Option.getD_none, hx_d, st]
  rw [b1]
  simp (decide := true) only [evSs, evS, evE, evT, evEs, evAs, evO, evC, evR, evSc, evScN, srcN, slotC, R.ok_bind, R.exc_bind, R.bad_bind, R.ok_out, R.exc_out, R.bad_out, setS, cn_im, cn_own, cn_bor, cn_chg, cn_lst, cn_dct, cn_set, datR_im, datR_lst, tru_none, tru_bool, tru_int, tru_list, tru_tuple, trd_none, trd_bool, trd_int, trd_list, trd_tuple, len_list, len_tuple, len_dct, cv_int, cv_tup1, cv_tup2, cv_lst1, cv_lst2, slD_int, slD_tuple, slD_str, slD_list,
  isi_none, isi_bool, isi_int, isi_str, isi_tuple, isi_list, isTy, arg_im, arg_own, grd_true, get_0, get_s, var_eq, mov_eq, bor_eq, mut_eq, put_eq, fin_eq, lk_eq, un_eq, var_im, var_own, mov_im, mov_own, bor_im, bor_own, bor_bor, bor_chg, mut_own, mut_chg, put_own, put_chg, puts_nil, puts_cons, app_own, app_chg, isl_list, isd_dct, fin_nil, fin_im, fin_bor, fin_own, fin_chg, out_ret, out_nx, ob_nx, ob_ret, ob_brk, ob_cnt, ul_nx, ul_ret, bp_im, bp_own, bp_t, bps_nil, bps_cons, lk_nil, lk_im, lk_bor, lk_own, lk_chg, un_nil, un_own, un_chg, un_im, un_bor, nox_ok, if_true, if_false, Bool.false_eq_true, as_nil, as_e, as_bor, as_chg,
  As.muts, As.bors, Sc.locks, Rdo.locks, Pt.slots, Pt.slotss, wipeS, backS, bAdd, bSub, c_lt, c_le, c_gt, c_ge, c_eq, c_ne, c_eqs, augD, itemsE, itemsS, isN_none, isN_bool, isN_int, isN_str, isN_tuple, isN_list, opt_none, Bool.xor_false, Bool.false_xor, Bool.true_xor, Bool.xor_true,
  List.getElem?_cons_zero, List.getElem?_cons_succ, List.getElem?_nil, List.set_cons_zero, List.set_cons_succ, List.length_cons, List.length_nil, List.map_cons, List.map_nil, Bool.true_and, Bool.and_true, Bool.not_true, Bool.not_false, Bool.and_self, List.all_nil, List.all_cons, List.nodup_nil, List.nodup_cons, List.not_mem_nil, not_false_eq_true, and_true, List.contains_nil, List.contains_eq_mem, decide_true, decide_false, Option.getD_some, Option.getD_none, st, dn_C, l1, List.length_map, q1, l2, q2, mh]
noncomputable def retD (h : Hx) (n : Int) : List Int := if n ∈ h.obt h.nums then (h.obt h.nums).filter fun m => decide (m = n) || !decide (m ∈ (h.lo [n]).obt h.nums) else []
theorem mem_retD {h : Hx} (hk : h.Ok) {n m : Int} : m ∈ retD h n ↔ h.Ret h.nums n m := by
  unfold retD Hx.Ret
  rw [← Hx.mem_obt hk, ← Hx.mem_obt hk, ← Hx.mem_obt (Hx.lo_ok hk [n])]
  split
  · rename_i q
    rw [List.mem_filter, Bool.or_eq_true, Bool.not_eq_true', decide_eq_true_eq, decide_eq_false_iff_not]
    exact ⟨fun z => ⟨q, z.1, z.2⟩, fun z => z.2⟩
  · rename_i q
    exact ⟨(fun z => by cases z), fun z => absurd z.1 q⟩
theorem retD_len {h : Hx} (hk : h.Ok) (n : Int) : (retD h n).length ≤ 100 := by
  unfold retD
  have few := hk.few
  have ol : (h.obt h.nums).length ≤ h.nums.length := List.length_filter_le ..
  split
  · have := List.length_filter_le (fun m => decide (m = n) || !decide (m ∈ (h.lo [n]).obt h.nums)) (h.obt h.nums)
    omega
  · exact Nat.zero_le _
theorem retained_ok {k : Nat} {h : Hx} (hk : h.Ok) {n : Int} : C (k + 6) i_retained [.im h.d, .im (.int n)] = .ok (.im (intsT (retD h n)), []) := by
  have few := hk.few
  have ol : (h.obt h.nums).length ≤ h.nums.length := List.length_filter_le ..
  have key : ∀ ρ, startS db_retained.fd [.im h.d, .im (.int n)] = ρ → C (k + 5 + 1) i_retained [.im h.d, .im (.int n)] = outCall [.im h.d, .im (.int n)] (evSs (C (k + 5)) 200 b_retained ρ) := fun ρ h => call_unf (k := k + 5) (d := db_retained) rfl rfl ρ h
  rw [key [some (.im h.d), some (.im (.int n)), none, none, none] rfl]
  unfold b_retained
  have r1 := reachable_ok (k := k) hk
  have r2 := left_out_ok (k := k + 2) hk (n := n)
  have r3 := reachable_ok (k := k) (Hx.lo_ok hk [n])
  rw [Hx.lo_nums] at r3
  unfold retD
  by_cases hn : n ∈ h.obt h.nums
  · rw [if_pos hn]
    have l1 := loopC_g (p := .v 4) (own := [4]) (ρ := [some (.im h.d), some (.im (.int n)), some (.im (intsT (h.obt h.nums))), some (.im (intsT ((h.lo [n]).obt h.nums))), none]) (c := evC (C (k + 4)) c_retained_1) (f := fun ρ => datR (evE (C (k + 4)) e_retained_0 ρ)) PyData.int (fun x => [some (.im h.d), some (.im (.int n)), some (.im (intsT (h.obt h.nums))), some (.im (intsT ((h.lo [n]).obt h.nums))), some (.im (.int x))]) (fun m => decide (m = n) || !decide (m ∈ (h.lo [n]).obt h.nums)) PyData.int (h.obt h.nums)
      (fun m _ => ⟨bp_im, (by by_cases e : m = n <;> simp (decide := true) only [c_retained_1, evSs, evS, evE, evT, evEs, evAs, evO, evC, evR, evSc, evScN, srcN, slotC, R.ok_bind, R.exc_bind, R.bad_bind, R.ok_out, R.exc_out, R.bad_out, setS, cn_im, cn_own, cn_bor, cn_chg, cn_lst, cn_dct, cn_set, datR_im, datR_lst, tru_none, tru_bool, tru_int, tru_list, tru_tuple, trd_none, trd_bool, trd_int, trd_list, trd_tuple, len_list, len_tuple, len_dct, cv_int, cv_tup1, cv_tup2, cv_lst1, cv_lst2, slD_int, slD_tuple, slD_str, slD_list,
  isi_none, isi_bool, isi_int, isi_str, isi_tuple, isi_list, isTy, arg_im, arg_own, grd_true, get_0, get_s, var_eq, mov_eq, bor_eq, mut_eq, put_eq, fin_eq, lk_eq, un_eq, var_im, var_own, mov_im, mov_own, bor_im, bor_own, bor_bor, bor_chg, mut_own, mut_chg, put_own, put_chg, puts_nil, puts_cons, app_own, app_chg, isl_list, isd_dct, fin_nil, fin_im, fin_bor, fin_own, fin_chg, out_ret, out_nx, ob_nx, ob_ret, ob_brk, ob_cnt, ul_nx, ul_ret, bp_im, bp_own, bp_t, bps_nil, bps_cons, lk_nil, lk_im, lk_bor, lk_own, lk_chg, un_nil, un_own, un_chg, un_im, un_bor, nox_ok, if_true, if_false, Bool.false_eq_true, as_nil, as_e, as_bor, as_chg,
  As.muts, As.bors, Sc.locks, Rdo.locks, Pt.slots, Pt.slotss, wipeS, backS, bAdd, bSub, c_lt, c_le, c_gt, c_ge, c_eq, c_ne, c_eqs, augD, itemsE, itemsS, isN_none, isN_bool, isN_int, isN_str, isN_tuple, isN_list, opt_none, Bool.xor_false, Bool.false_xor, Bool.true_xor, Bool.xor_true,
  List.getElem?_cons_zero, List.getElem?_cons_succ, List.getElem?_nil, List.set_cons_zero, List.set_cons_succ, List.length_cons, List.length_nil, List.map_cons, List.map_nil, Bool.true_and, Bool.and_true, Bool.not_true, Bool.not_false, Bool.and_self, List.all_nil, List.all_cons, List.nodup_nil, List.nodup_cons, List.not_mem_nil, not_false_eq_true, and_true, List.contains_nil, List.contains_eq_mem, decide_true, decide_false, Option.getD_some, Option.getD_none, mem_ints, e, Bool.true_or, Bool.false_or]), fun _ => by simp only [e_retained_0, evSs, evS, evE, evT, evEs, evAs, evO, evC, evR, evSc, evScN, srcN, slotC, R.ok_bind, R.exc_bind, R.bad_bind, R.ok_out, R.exc_out, R.bad_out, setS, cn_im, cn_own, cn_bor, cn_chg, cn_lst, cn_dct, cn_set, datR_im, datR_lst, tru_none, tru_bool, tru_int, tru_list, tru_tuple, trd_none, trd_bool, trd_int, trd_list, trd_tuple, len_list, len_tuple, len_dct, cv_int, cv_tup1, cv_tup2, cv_lst1, cv_lst2, slD_int, slD_tuple, slD_str, slD_list,
  isi_none, isi_bool, isi_int, isi_str, isi_tuple, isi_list, isTy, arg_im, arg_own, grd_true, get_0, get_s, var_eq, mov_eq, bor_eq, mut_eq, put_eq, fin_eq, lk_eq, un_eq, var_im, var_own, mov_im, mov_own, bor_im, bor_own, bor_bor, bor_chg, mut_own, mut_chg, put_own, put_chg, puts_nil, puts_cons, app_own, app_chg, isl_list, isd_dct, fin_nil, fin_im, fin_bor, fin_own, fin_chg, out_ret, out_nx, ob_nx, ob_ret, ob_brk, ob_cnt, ul_nx, ul_ret, bp_im, bp_own, bp_t, bps_nil, bps_cons, lk_nil, lk_im, lk_bor, lk_own, lk_chg, un_nil, un_own, un_chg, un_im, un_bor, nox_ok, if_true, if_false, Bool.false_eq_true, as_nil, as_e, as_bor, as_chg,
  As.muts, As.bors, Sc.locks, Rdo.locks, Pt.slots, Pt.slotss, wipeS, backS, bAdd, bSub, c_lt, c_le, c_gt, c_ge, c_eq, c_ne, c_eqs, augD, itemsE, itemsS, isN_none, isN_bool, isN_int, isN_str, isN_tuple, isN_list, opt_none, Bool.xor_false, Bool.false_xor, Bool.true_xor, Bool.xor_true,
  List.getElem?_cons_zero, List.getElem?_cons_succ, List.getElem?_nil, List.set_cons_zero, List.set_cons_succ, List.length_cons, List.length_nil, List.map_cons, List.map_nil, Bool.true_and, Bool.and_true, Bool.not_true, Bool.not_false, Bool.and_self, List.all_nil, List.all_cons, List.nodup_nil, List.nodup_cons, List.not_mem_nil, not_false_eq_true, and_true, List.contains_nil, List.contains_eq_mem, decide_true, decide_false, Option.getD_some, Option.getD_none], rfl⟩)
    have q1 : ((h.obt h.nums).filter fun m => decide (m = n) || !decide (m ∈ (h.lo [n]).obt h.nums)).length ≤ lineN := by
      have := List.length_filter_le (fun m => decide (m = n) || !decide (m ∈ (h.lo [n]).obt h.nums)) (h.obt h.nums)
      unfold lineN; omega
    simp (decide := true) only [evSs, evS, evE, evT, evEs, evAs, evO, evC, evR, evSc, evScN, srcN, slotC, R.ok_bind, R.exc_bind, R.bad_bind, R.ok_out, R.exc_out, R.bad_out, setS, cn_im, cn_own, cn_bor, cn_chg, cn_lst, cn_dct, cn_set, datR_im, datR_lst, tru_none, tru_bool, tru_int, tru_list, tru_tuple, trd_none, trd_bool, trd_int, trd_list, trd_tuple, len_list, len_tuple, len_dct, cv_int, cv_tup1, cv_tup2, cv_lst1, cv_lst2, slD_int, slD_tuple, slD_str, slD_list,
  isi_none, isi_bool, isi_int, isi_str, isi_tuple, isi_list, isTy, arg_im, arg_own, grd_true, get_0, get_s, var_eq, mov_eq, bor_eq, mut_eq, put_eq, fin_eq, lk_eq, un_eq, var_im, var_own, mov_im, mov_own, bor_im, bor_own, bor_bor, bor_chg, mut_own, mut_chg, put_own, put_chg, puts_nil, puts_cons, app_own, app_chg, isl_list, isd_dct, fin_nil, fin_im, fin_bor, fin_own, fin_chg, out_ret, out_nx, ob_nx, ob_ret, ob_brk, ob_cnt, ul_nx, ul_ret, bp_im, bp_own, bp_t, bps_nil, bps_cons, lk_nil, lk_im, lk_bor, lk_own, lk_chg, un_nil, un_own, un_chg, un_im, un_bor, nox_ok, if_true, if_false, Bool.false_eq_true, as_nil, as_e, as_bor, as_chg,
  As.muts, As.bors, Sc.locks, Rdo.locks, Pt.slots, Pt.slotss, wipeS, backS, bAdd, bSub, c_lt, c_le, c_gt, c_ge, c_eq, c_ne, c_eqs, augD, itemsE, itemsS, isN_none, isN_bool, isN_int, isN_str, isN_tuple, isN_list, opt_none, Bool.xor_false, Bool.false_xor, Bool.true_xor, Bool.xor_true,
  List.getElem?_cons_zero, List.getElem?_cons_succ, List.getElem?_nil, List.set_cons_zero, List.set_cons_succ, List.length_cons, List.length_nil, List.map_cons, List.map_nil, Bool.true_and, Bool.and_true, Bool.not_true, Bool.not_false, Bool.and_self, List.all_nil, List.all_cons, List.nodup_nil, List.nodup_cons, List.not_mem_nil, not_false_eq_true, and_true, List.contains_nil, List.contains_eq_mem, decide_true, decide_false, Option.getD_some, Option.getD_none, r1, r2, r3, mem_ints, hn, dn_C, l1, List.length_map, q1]
  · rw [if_neg hn]
    simp (decide := true) only [evSs, evS, evE, evT, evEs, evAs, evO, evC, evR, evSc, evScN, srcN, slotC, R.ok_bind, R.exc_bind, R.bad_bind, R.ok_out, R.exc_out, R.bad_out, setS, cn_im, cn_own, cn_bor, cn_chg, cn_lst, cn_dct, cn_set, datR_im, datR_lst, tru_none, tru_bool, tru_int, tru_list, tru_tuple, trd_none, trd_bool, trd_int, trd_list, trd_tuple, len_list, len_tuple, len_dct, cv_int, cv_tup1, cv_tup2, cv_lst1, cv_lst2, slD_int, slD_tuple, slD_str, slD_list,
  isi_none, isi_bool, isi_int, isi_str, isi_tuple, isi_list, isTy, arg_im, arg_own, grd_true, get_0, get_s, var_eq, mov_eq, bor_eq, mut_eq, put_eq, fin_eq, lk_eq, un_eq, var_im, var_own, mov_im, mov_own, bor_im, bor_own, bor_bor, bor_chg, mut_own, mut_chg, put_own, put_chg, puts_nil, puts_cons, app_own, app_chg, isl_list, isd_dct, fin_nil, fin_im, fin_bor, fin_own, fin_chg, out_ret, out_nx, ob_nx, ob_ret, ob_brk, ob_cnt, ul_nx, ul_ret, bp_im, bp_own, bp_t, bps_nil, bps_cons, lk_nil, lk_im, lk_bor, lk_own, lk_chg, un_nil, un_own, un_chg, un_im, un_bor, nox_ok, if_true, if_false, Bool.false_eq_true, as_nil, as_e, as_bor, as_chg,
  As.muts, As.bors, Sc.locks, Rdo.locks, Pt.slots, Pt.slotss, wipeS, backS, bAdd, bSub, c_lt, c_le, c_gt, c_ge, c_eq, c_ne, c_eqs, augD, itemsE, itemsS, isN_none, isN_bool, isN_int, isN_str, isN_tuple, isN_list, opt_none, Bool.xor_false, Bool.false_xor, Bool.true_xor, Bool.xor_true,
  List.getElem?_cons_zero, List.getElem?_cons_succ, List.getElem?_nil, List.set_cons_zero, List.set_cons_succ, List.length_cons, List.length_nil, List.map_cons, List.map_nil, Bool.true_and, Bool.and_true, Bool.not_true, Bool.not_false, Bool.and_self, List.all_nil, List.all_cons, List.nodup_nil, List.nodup_cons, List.not_mem_nil, not_false_eq_true, and_true, List.contains_nil, List.contains_eq_mem, decide_true, decide_false, Option.getD_some, Option.getD_none, r1, mem_ints, hn]
    rfl
theorem dominators_ok {k : Nat} {h : Hx} (hk : h.Ok) {n : Int} : C (k + 8) i_dominators [.im h.d, .im (.int n)] = .ok (.im (intsT (h.nums.filter fun m => decide (n ∈ retD h m))), []) := by
  have few := hk.few
  have key : ∀ ρ, startS db_dominators.fd [.im h.d, .im (.int n)] = ρ → C (k + 7 + 1) i_dominators [.im h.d, .im (.int n)] = outCall [.im h.d, .im (.int n)] (evSs (C (k + 7)) 200 b_dominators ρ) := fun ρ h => call_unf (k := k + 7) (d := db_dominators) rfl rfl ρ h
  rw [key [some (.im h.d), some (.im (.int n)), none] rfl]
  unfold b_dominators
  have r1 := numbers_of_ok (k := k + 6) hk
  have l1 := loopC_g (p := .v 2) (own := [2]) (ρ := [some (.im h.d), some (.im (.int n)), none]) (c := evC (C (k + 6)) c_dominators_1) (f := fun ρ => datR (evE (C (k + 6)) e_dominators_0 ρ)) PyData.int (fun x => [some (.im h.d), some (.im (.int n)), some (.im (.int x))]) (fun m => decide (n ∈ retD h m)) PyData.int h.nums
    (fun m _ => ⟨bp_im, (by
      have r2 := retained_ok (k := k) hk (n := m)
      simp (decide := true) only [c_dominators_1, evSs, evS, evE, evT, evEs, evAs, evO, evC, evR, evSc, evScN, srcN, slotC, R.ok_bind, R.exc_bind, R.bad_bind, R.ok_out, R.exc_out, R.bad_out, setS, cn_im, cn_own, cn_bor, cn_chg, cn_lst, cn_dct, cn_set, datR_im, datR_lst, tru_none, tru_bool, tru_int, tru_list, tru_tuple, trd_none, trd_bool, trd_int, trd_list, trd_tuple, len_list, len_tuple, len_dct, cv_int, cv_tup1, cv_tup2, cv_lst1, cv_lst2, slD_int, slD_tuple, slD_str, slD_list,
  isi_none, isi_bool, isi_int, isi_str, isi_tuple, isi_list, isTy, arg_im, arg_own, grd_true, get_0, get_s, var_eq, mov_eq, bor_eq, mut_eq, put_eq, fin_eq, lk_eq, un_eq, var_im, var_own, mov_im, mov_own, bor_im, bor_own, bor_bor, bor_chg, mut_own, mut_chg, put_own, put_chg, puts_nil, puts_cons, app_own, app_chg, isl_list, isd_dct, fin_nil, fin_im, fin_bor, fin_own, fin_chg, out_ret, out_nx, ob_nx, ob_ret, ob_brk, ob_cnt, ul_nx, ul_ret, bp_im, bp_own, bp_t, bps_nil, bps_cons, lk_nil, lk_im, lk_bor, lk_own, lk_chg, un_nil, un_own, un_chg, un_im, un_bor, nox_ok, if_true, if_false, Bool.false_eq_true, as_nil, as_e, as_bor, as_chg,
  As.muts, As.bors, Sc.locks, Rdo.locks, Pt.slots, Pt.slotss, wipeS, backS, bAdd, bSub, c_lt, c_le, c_gt, c_ge, c_eq, c_ne, c_eqs, augD, itemsE, itemsS, isN_none, isN_bool, isN_int, isN_str, isN_tuple, isN_list, opt_none, Bool.xor_false, Bool.false_xor, Bool.true_xor, Bool.xor_true,
  List.getElem?_cons_zero, List.getElem?_cons_succ, List.getElem?_nil, List.set_cons_zero, List.set_cons_succ, List.length_cons, List.length_nil, List.map_cons, List.map_nil, Bool.true_and, Bool.and_true, Bool.not_true, Bool.not_false, Bool.and_self, List.all_nil, List.all_cons, List.nodup_nil, List.nodup_cons, List.not_mem_nil, not_false_eq_true, and_true, List.contains_nil, List.contains_eq_mem, decide_true, decide_false, Option.getD_some, Option.getD_none, r2, mem_ints]), fun _ => by simp only [e_dominators_0, evSs, evS, evE, evT, evEs, evAs, evO, evC, evR, evSc, evScN, srcN, slotC, R.ok_bind, R.exc_bind, R.bad_bind, R.ok_out, R.exc_out, R.bad_out, setS, cn_im, cn_own, cn_bor, cn_chg, cn_lst, cn_dct, cn_set, datR_im, datR_lst, tru_none, tru_bool, tru_int, tru_list, tru_tuple, trd_none, trd_bool, trd_int, trd_list, trd_tuple, len_list, len_tuple, len_dct, cv_int, cv_tup1, cv_tup2, cv_lst1, cv_lst2, slD_int, slD_tuple, slD_str, slD_list,
  isi_none, isi_bool, isi_int, isi_str, isi_tuple, isi_list, isTy, arg_im, arg_own, grd_true, get_0, get_s, var_eq, mov_eq, bor_eq, mut_eq, put_eq, fin_eq, lk_eq, un_eq, var_im, var_own, mov_im, mov_own, bor_im, bor_own, bor_bor, bor_chg, mut_own, mut_chg, put_own, put_chg, puts_nil, puts_cons, app_own, app_chg, isl_list, isd_dct, fin_nil, fin_im, fin_bor, fin_own, fin_chg, out_ret, out_nx, ob_nx, ob_ret, ob_brk, ob_cnt, ul_nx, ul_ret, bp_im, bp_own, bp_t, bps_nil, bps_cons, lk_nil, lk_im, lk_bor, lk_own, lk_chg, un_nil, un_own, un_chg, un_im, un_bor, nox_ok, if_true, if_false, Bool.false_eq_true, as_nil, as_e, as_bor, as_chg,
  As.muts, As.bors, Sc.locks, Rdo.locks, Pt.slots, Pt.slotss, wipeS, backS, bAdd, bSub, c_lt, c_le, c_gt, c_ge, c_eq, c_ne, c_eqs, augD, itemsE, itemsS, isN_none, isN_bool, isN_int, isN_str, isN_tuple, isN_list, opt_none, Bool.xor_false, Bool.false_xor, Bool.true_xor, Bool.xor_true,
  List.getElem?_cons_zero, List.getElem?_cons_succ, List.getElem?_nil, List.set_cons_zero, List.set_cons_succ, List.length_cons, List.length_nil, List.map_cons, List.map_nil, Bool.true_and, Bool.and_true, Bool.not_true, Bool.not_false, Bool.and_self, List.all_nil, List.all_cons, List.nodup_nil, List.nodup_cons, List.not_mem_nil, not_false_eq_true, and_true, List.contains_nil, List.contains_eq_mem, decide_true, decide_false, Option.getD_some, Option.getD_none], rfl⟩)
  have q1 : (h.nums.filter fun m => decide (n ∈ retD h m)).length ≤ lineN := by
    have := List.length_filter_le (fun m => decide (n ∈ retD h m)) h.nums
    unfold lineN; omega
  simp (decide := true) only [evSs, evS, evE, evT, evEs, evAs, evO, evC, evR, evSc, evScN, srcN, slotC, R.ok_bind, R.exc_bind, R.bad_bind, R.ok_out, R.exc_out, R.bad_out, setS, cn_im, cn_own, cn_bor, cn_chg, cn_lst, cn_dct, cn_set, datR_im, datR_lst, tru_none, tru_bool, tru_int, tru_list, tru_tuple, trd_none, trd_bool, trd_int, trd_list, trd_tuple, len_list, len_tuple, len_dct, cv_int, cv_tup1, cv_tup2, cv_lst1, cv_lst2, slD_int, slD_tuple, slD_str, slD_list,
  isi_none, isi_bool, isi_int, isi_str, isi_tuple, isi_list, isTy, arg_im, arg_own, grd_true, get_0, get_s, var_eq, mov_eq, bor_eq, mut_eq, put_eq, fin_eq, lk_eq, un_eq, var_im, var_own, mov_im, mov_own, bor_im, bor_own, bor_bor, bor_chg, mut_own, mut_chg, put_own, put_chg, puts_nil, puts_cons, app_own, app_chg, isl_list, isd_dct, fin_nil, fin_im, fin_bor, fin_own, fin_chg, out_ret, out_nx, ob_nx, ob_ret, ob_brk, ob_cnt, ul_nx, ul_ret, bp_im, bp_own, bp_t, bps_nil, bps_cons, lk_nil, lk_im, lk_bor, lk_own, lk_chg, un_nil, un_own, un_chg, un_im, un_bor, nox_ok, if_true, if_false, Bool.false_eq_true, as_nil, as_e, as_bor, as_chg,
  As.muts, As.bors, Sc.locks, Rdo.locks, Pt.slots, Pt.slotss, wipeS, backS, bAdd, bSub, c_lt, c_le, c_gt, c_ge, c_eq, c_ne, c_eqs, augD, itemsE, itemsS, isN_none, isN_bool, isN_int, isN_str, isN_tuple, isN_list, opt_none, Bool.xor_false, Bool.false_xor, Bool.true_xor, Bool.xor_true,
  List.getElem?_cons_zero, List.getElem?_cons_succ, List.getElem?_nil, List.set_cons_zero, List.set_cons_succ, List.length_cons, List.length_nil, List.map_cons, List.map_nil, Bool.true_and, Bool.and_true, Bool.not_true, Bool.not_false, Bool.and_self, List.all_nil, List.all_cons, List.nodup_nil, List.nodup_cons, List.not_mem_nil, not_false_eq_true, and_true, List.contains_nil, List.contains_eq_mem, decide_true, decide_false, Option.getD_some, Option.getD_none, r1, dn_C, l1, List.length_map, q1]
/-! the law's heap without an object -/
theorem lleft_out_ok {k : Nat} {h : Hx} (hk : h.Ok) {n : Int} : C (k + 1) i_law_left_out [.im h.d, .im (.int n)] = .ok (.im (h.lo [n]).d, []) := by
  have few := hk.few
  have fewR := hk.fewR
  have en : h.nums.length = h.objs.length := by unfold Hx.nums; rw [List.length_map]
  have key : ∀ ρ, startS db_law_left_out.fd [.im h.d, .im (.int n)] = ρ → C (k + 1) i_law_left_out [.im h.d, .im (.int n)] = outCall [.im h.d, .im (.int n)] (evSs (C (k)) 200 b_law_left_out ρ) := fun ρ h => call_unf (k := k) (d := db_law_left_out) rfl rfl ρ h
  rw [key [some (.im h.d), some (.im (.int n)), none, none, none, none] rfl]
  unfold b_law_left_out
  obtain ⟨ρ', h1, x3, h2⟩ := loopF_t0 (p := .v 3) (b := evSs (C k) 200 b_law_left_out_4) Ob.d (fun os ρ => ∃ x3, ρ = [some (.im h.d), some (.im (.int n)), some (.own (.lst (os.map fun o => (o.wo [n]).d))), x3, none, none]) h.objs
    (fun ys o zs ρ e ⟨x3, h2⟩ => by
      subst h2
      have ho : o ∈ h.objs := by rw [e]; simp
      have ok := hk.obs o ho
      have hl : ys.length < lineN := by
        have := congrArg List.length e
        rw [List.length_append, List.length_cons] at this
        unfold lineN; omega
      have hl2 : (ys.map fun o => (o.wo [n]).d).length < lineN := by rw [List.length_map]; exact hl
      refine ⟨_, [some (.im h.d), some (.im (.int n)), some (.own (.lst ((ys ++ [o]).map fun o => (o.wo [n]).d))), some (.im (o.wo [n]).d), none, none], bp_im, ?_, _, rfl⟩
      rw [List.map_append, List.map_cons, List.map_nil]
      cases o with
      | recd m fs =>
        have lp := loopC_g (p := .v 4) (own := [4]) (ρ := [some (.im h.d), some (.im (.int n)), some (.own (.lst (ys.map fun o => (o.wo [n]).d))), some (.im (Ob.recd m fs).d), none, none]) (c := evC (C k) .no) (f := fun ρ => datR (evE (C k) e_law_left_out_1 ρ)) optD (fun r => [some (.im h.d), some (.im (.int n)), some (.own (.lst (ys.map fun o => (o.wo [n]).d))), some (.im (Ob.recd m fs).d), some (.im (optD r)), none]) (fun _ => true) (fun r => optD (optOut [n] r)) fs
          (fun r _ => ⟨bp_im, evC_no, fun _ => by
            rw [optOut_if, optIn_one]
            by_cases e : r = some n <;> simp (decide := true) only [e_law_left_out_1, evSs, evS, evE, evT, evEs, evAs, evO, evC, evR, evSc, evScN, srcN, slotC, R.ok_bind, R.exc_bind, R.bad_bind, R.ok_out, R.exc_out, R.bad_out, setS, cn_im, cn_own, cn_bor, cn_chg, cn_lst, cn_dct, cn_set, datR_im, datR_lst, tru_none, tru_bool, tru_int, tru_list, tru_tuple, trd_none, trd_bool, trd_int, trd_list, trd_tuple, len_list, len_tuple, len_dct, cv_int, cv_tup1, cv_tup2, cv_lst1, cv_lst2, slD_int, slD_tuple, slD_str, slD_list,
  isi_none, isi_bool, isi_int, isi_str, isi_tuple, isi_list, isTy, arg_im, arg_own, grd_true, get_0, get_s, var_eq, mov_eq, bor_eq, mut_eq, put_eq, fin_eq, lk_eq, un_eq, var_im, var_own, mov_im, mov_own, bor_im, bor_own, bor_bor, bor_chg, mut_own, mut_chg, put_own, put_chg, puts_nil, puts_cons, app_own, app_chg, isl_list, isd_dct, fin_nil, fin_im, fin_bor, fin_own, fin_chg, out_ret, out_nx, ob_nx, ob_ret, ob_brk, ob_cnt, ul_nx, ul_ret, bp_im, bp_own, bp_t, bps_nil, bps_cons, lk_nil, lk_im, lk_bor, lk_own, lk_chg, un_nil, un_own, un_chg, un_im, un_bor, nox_ok, if_true, if_false, Bool.false_eq_true, as_nil, as_e, as_bor, as_chg,
  As.muts, As.bors, Sc.locks, Rdo.locks, Pt.slots, Pt.slotss, wipeS, backS, bAdd, bSub, c_lt, c_le, c_gt, c_ge, c_eq, c_ne, c_eqs, augD, itemsE, itemsS, isN_none, isN_bool, isN_int, isN_str, isN_tuple, isN_list, opt_none, Bool.xor_false, Bool.false_xor, Bool.true_xor, Bool.xor_true,
  List.getElem?_cons_zero, List.getElem?_cons_succ, List.getElem?_nil, List.set_cons_zero, List.set_cons_succ, List.length_cons, List.length_nil, List.map_cons, List.map_nil, Bool.true_and, Bool.and_true, Bool.not_true, Bool.not_false, Bool.and_self, List.all_nil, List.all_cons, List.nodup_nil, List.nodup_cons, List.not_mem_nil, not_false_eq_true, and_true, List.contains_nil, List.contains_eq_mem, decide_true, decide_false, Option.getD_some, Option.getD_none, eq_opt, e], rfl⟩)
        rw [filter_all] at lp
        have l1 : fs.length ≤ lineN := by have := ok.2; unfold lineN; omega
        have w : ((Ob.recd m fs).wo [n]).d = .tuple [.str "record", .int m, .tuple (fs.map fun r => optD (optOut [n] r))] := by
          show PyData.tuple [.str "record", .int m, .tuple ((fs.map (optOut [n])).map optD)] = _
          rw [List.map_map]; rfl
        rw [w]
        simp (decide := true) only [b_law_left_out_4, evSs, evS, evE, evT, evEs, evAs, evO, evC, evR, evSc, evScN, srcN, slotC, R.ok_bind, R.exc_bind, R.bad_bind, R.ok_out, R.exc_out, R.bad_out, setS, cn_im, cn_own, cn_bor, cn_chg, cn_lst, cn_dct, cn_set, datR_im, datR_lst, tru_none, tru_bool, tru_int, tru_list, tru_tuple, trd_none, trd_bool, trd_int, trd_list, trd_tuple, len_list, len_tuple, len_dct, cv_int, cv_tup1, cv_tup2, cv_lst1, cv_lst2, slD_int, slD_tuple, slD_str, slD_list,
  isi_none, isi_bool, isi_int, isi_str, isi_tuple, isi_list, isTy, arg_im, arg_own, grd_true, get_0, get_s, var_eq, mov_eq, bor_eq, mut_eq, put_eq, fin_eq, lk_eq, un_eq, var_im, var_own, mov_im, mov_own, bor_im, bor_own, bor_bor, bor_chg, mut_own, mut_chg, put_own, put_chg, puts_nil, puts_cons, app_own, app_chg, isl_list, isd_dct, fin_nil, fin_im, fin_bor, fin_own, fin_chg, out_ret, out_nx, ob_nx, ob_ret, ob_brk, ob_cnt, ul_nx, ul_ret, bp_im, bp_own, bp_t, bps_nil, bps_cons, lk_nil, lk_im, lk_bor, lk_own, lk_chg, un_nil, un_own, un_chg, un_im, un_bor, nox_ok, if_true, if_false, Bool.false_eq_true, as_nil, as_e, as_bor, as_chg,
  As.muts, As.bors, Sc.locks, Rdo.locks, Pt.slots, Pt.slotss, wipeS, backS, bAdd, bSub, c_lt, c_le, c_gt, c_ge, c_eq, c_ne, c_eqs, augD, itemsE, itemsS, isN_none, isN_bool, isN_int, isN_str, isN_tuple, isN_list, opt_none, Bool.xor_false, Bool.false_xor, Bool.true_xor, Bool.xor_true,
  List.getElem?_cons_zero, List.getElem?_cons_succ, List.getElem?_nil, List.set_cons_zero, List.set_cons_succ, List.length_cons, List.length_nil, List.map_cons, List.map_nil, Bool.true_and, Bool.and_true, Bool.not_true, Bool.not_false, Bool.and_self, List.all_nil, List.all_cons, List.nodup_nil, List.nodup_cons, List.not_mem_nil, not_false_eq_true, and_true, List.contains_nil, List.contains_eq_mem, decide_true, decide_false, Option.getD_some, Option.getD_none, ob_kind, Ob.kindS, ob_num, Ob.num, recd_2, lp, List.length_map, l1, app_own hl2]
      | weak m t =>
        have w : ((Ob.weak m t).wo [n]).d = .tuple [.str "weak", .int m, optD (optOut [n] t)] := rfl
        rw [w, optOut_if, optIn_one]
        by_cases e : t = some n <;> simp (decide := true) only [b_law_left_out_4, evSs, evS, evE, evT, evEs, evAs, evO, evC, evR, evSc, evScN, srcN, slotC, R.ok_bind, R.exc_bind, R.bad_bind, R.ok_out, R.exc_out, R.bad_out, setS, cn_im, cn_own, cn_bor, cn_chg, cn_lst, cn_dct, cn_set, datR_im, datR_lst, tru_none, tru_bool, tru_int, tru_list, tru_tuple, trd_none, trd_bool, trd_int, trd_list, trd_tuple, len_list, len_tuple, len_dct, cv_int, cv_tup1, cv_tup2, cv_lst1, cv_lst2, slD_int, slD_tuple, slD_str, slD_list,
  isi_none, isi_bool, isi_int, isi_str, isi_tuple, isi_list, isTy, arg_im, arg_own, grd_true, get_0, get_s, var_eq, mov_eq, bor_eq, mut_eq, put_eq, fin_eq, lk_eq, un_eq, var_im, var_own, mov_im, mov_own, bor_im, bor_own, bor_bor, bor_chg, mut_own, mut_chg, put_own, put_chg, puts_nil, puts_cons, app_own, app_chg, isl_list, isd_dct, fin_nil, fin_im, fin_bor, fin_own, fin_chg, out_ret, out_nx, ob_nx, ob_ret, ob_brk, ob_cnt, ul_nx, ul_ret, bp_im, bp_own, bp_t, bps_nil, bps_cons, lk_nil, lk_im, lk_bor, lk_own, lk_chg, un_nil, un_own, un_chg, un_im, un_bor, nox_ok, if_true, if_false, Bool.false_eq_true, as_nil, as_e, as_bor, as_chg,
  As.muts, As.bors, Sc.locks, Rdo.locks, Pt.slots, Pt.slotss, wipeS, backS, bAdd, bSub, c_lt, c_le, c_gt, c_ge, c_eq, c_ne, c_eqs, augD, itemsE, itemsS, isN_none, isN_bool, isN_int, isN_str, isN_tuple, isN_list, opt_none, Bool.xor_false, Bool.false_xor, Bool.true_xor, Bool.xor_true,
  List.getElem?_cons_zero, List.getElem?_cons_succ, List.getElem?_nil, List.set_cons_zero, List.set_cons_succ, List.length_cons, List.length_nil, List.map_cons, List.map_nil, Bool.true_and, Bool.and_true, Bool.not_true, Bool.not_false, Bool.and_self, List.all_nil, List.all_cons, List.nodup_nil, List.nodup_cons, List.not_mem_nil, not_false_eq_true, and_true, List.contains_nil, List.contains_eq_mem, decide_true, decide_false, Option.getD_some, Option.getD_none, ob_kind, Ob.kindS, ob_num, Ob.num, weak_2, eq_opt, e, app_own hl2]
      | tab m es =>
        have lp := loopC_g (p := .v 5) (own := [5]) (ρ := [some (.im h.d), some (.im (.int n)), some (.own (.lst (ys.map fun o => (o.wo [n]).d))), some (.im (Ob.tab m es).d), none, none]) (c := evC (C k) c_law_left_out_3) (f := fun ρ => datR (evE (C k) e_law_left_out_2 ρ)) entD (fun e => [some (.im h.d), some (.im (.int n)), some (.own (.lst (ys.map fun o => (o.wo [n]).d))), some (.im (Ob.tab m es).d), none, some (.im (entD e))]) (fun e => decide (e.1 ∉ [n]) && decide (e.2 ∉ [n])) entD es
          (fun e _ => ⟨bp_im, (by
            have q : memD (.int n) (.dat (entD e)) = .ok (decide (n ∈ [e.1, e.2])) := mem_ints (xs := [e.1, e.2])
            have q2 : (!decide (n ∈ [e.1, e.2])) = (decide (e.1 ∉ [n]) && decide (e.2 ∉ [n])) := by
              rw [Bool.eq_iff_iff]
              simp only [Bool.and_eq_true, Bool.not_eq_true', decide_eq_true_eq, decide_eq_false_iff_not, List.mem_cons, List.not_mem_nil, or_false, not_or]
              exact ⟨fun z => ⟨Ne.symm z.1, Ne.symm z.2⟩, fun z => ⟨Ne.symm z.1, Ne.symm z.2⟩⟩
            simp (decide := true) only [c_law_left_out_3, evSs, evS, evE, evT, evEs, evAs, evO, evC, evR, evSc, evScN, srcN, slotC, R.ok_bind, R.exc_bind, R.bad_bind, R.ok_out, R.exc_out, R.bad_out, setS, cn_im, cn_own, cn_bor, cn_chg, cn_lst, cn_dct, cn_set, datR_im, datR_lst, tru_none, tru_bool, tru_int, tru_list, tru_tuple, trd_none, trd_bool, trd_int, trd_list, trd_tuple, len_list, len_tuple, len_dct, cv_int, cv_tup1, cv_tup2, cv_lst1, cv_lst2, slD_int, slD_tuple, slD_str, slD_list,
  isi_none, isi_bool, isi_int, isi_str, isi_tuple, isi_list, isTy, arg_im, arg_own, grd_true, get_0, get_s, var_eq, mov_eq, bor_eq, mut_eq, put_eq, fin_eq, lk_eq, un_eq, var_im, var_own, mov_im, mov_own, bor_im, bor_own, bor_bor, bor_chg, mut_own, mut_chg, put_own, put_chg, puts_nil, puts_cons, app_own, app_chg, isl_list, isd_dct, fin_nil, fin_im, fin_bor, fin_own, fin_chg, out_ret, out_nx, ob_nx, ob_ret, ob_brk, ob_cnt, ul_nx, ul_ret, bp_im, bp_own, bp_t, bps_nil, bps_cons, lk_nil, lk_im, lk_bor, lk_own, lk_chg, un_nil, un_own, un_chg, un_im, un_bor, nox_ok, if_true, if_false, Bool.false_eq_true, as_nil, as_e, as_bor, as_chg,
  As.muts, As.bors, Sc.locks, Rdo.locks, Pt.slots, Pt.slotss, wipeS, backS, bAdd, bSub, c_lt, c_le, c_gt, c_ge, c_eq, c_ne, c_eqs, augD, itemsE, itemsS, isN_none, isN_bool, isN_int, isN_str, isN_tuple, isN_list, opt_none, Bool.xor_false, Bool.false_xor, Bool.true_xor, Bool.xor_true,
  List.getElem?_cons_zero, List.getElem?_cons_succ, List.getElem?_nil, List.set_cons_zero, List.set_cons_succ, List.length_cons, List.length_nil, List.map_cons, List.map_nil, Bool.true_and, Bool.and_true, Bool.not_true, Bool.not_false, Bool.and_self, List.all_nil, List.all_cons, List.nodup_nil, List.nodup_cons, List.not_mem_nil, not_false_eq_true, and_true, List.contains_nil, List.contains_eq_mem, decide_true, decide_false, Option.getD_some, Option.getD_none, q]
            rw [q2]), fun _ => by simp only [e_law_left_out_2, evSs, evS, evE, evT, evEs, evAs, evO, evC, evR, evSc, evScN, srcN, slotC, R.ok_bind, R.exc_bind, R.bad_bind, R.ok_out, R.exc_out, R.bad_out, setS, cn_im, cn_own, cn_bor, cn_chg, cn_lst, cn_dct, cn_set, datR_im, datR_lst, tru_none, tru_bool, tru_int, tru_list, tru_tuple, trd_none, trd_bool, trd_int, trd_list, trd_tuple, len_list, len_tuple, len_dct, cv_int, cv_tup1, cv_tup2, cv_lst1, cv_lst2, slD_int, slD_tuple, slD_str, slD_list,
  isi_none, isi_bool, isi_int, isi_str, isi_tuple, isi_list, isTy, arg_im, arg_own, grd_true, get_0, get_s, var_eq, mov_eq, bor_eq, mut_eq, put_eq, fin_eq, lk_eq, un_eq, var_im, var_own, mov_im, mov_own, bor_im, bor_own, bor_bor, bor_chg, mut_own, mut_chg, put_own, put_chg, puts_nil, puts_cons, app_own, app_chg, isl_list, isd_dct, fin_nil, fin_im, fin_bor, fin_own, fin_chg, out_ret, out_nx, ob_nx, ob_ret, ob_brk, ob_cnt, ul_nx, ul_ret, bp_im, bp_own, bp_t, bps_nil, bps_cons, lk_nil, lk_im, lk_bor, lk_own, lk_chg, un_nil, un_own, un_chg, un_im, un_bor, nox_ok, if_true, if_false, Bool.false_eq_true, as_nil, as_e, as_bor, as_chg,
  As.muts, As.bors, Sc.locks, Rdo.locks, Pt.slots, Pt.slotss, wipeS, backS, bAdd, bSub, c_lt, c_le, c_gt, c_ge, c_eq, c_ne, c_eqs, augD, itemsE, itemsS, isN_none, isN_bool, isN_int, isN_str, isN_tuple, isN_list, opt_none, Bool.xor_false, Bool.false_xor, Bool.true_xor, Bool.xor_true,
  List.getElem?_cons_zero, List.getElem?_cons_succ, List.getElem?_nil, List.set_cons_zero, List.set_cons_succ, List.length_cons, List.length_nil, List.map_cons, List.map_nil, Bool.true_and, Bool.and_true, Bool.not_true, Bool.not_false, Bool.and_self, List.all_nil, List.all_cons, List.nodup_nil, List.nodup_cons, List.not_mem_nil, not_false_eq_true, and_true, List.contains_nil, List.contains_eq_mem, decide_true, decide_false, Option.getD_some, Option.getD_none], rfl⟩)
        have l1 : (es.filter fun e => decide (e.1 ∉ [n]) && decide (e.2 ∉ [n])).length ≤ lineN := by have := List.length_filter_le (fun e : Int × Int => decide (e.1 ∉ [n]) && decide (e.2 ∉ [n])) es; have := ok.2.2; unfold lineN; omega
        have w : ((Ob.tab m es).wo [n]).d = .tuple [.str "table", .int m, .tuple ((es.filter fun e => decide (e.1 ∉ [n]) && decide (e.2 ∉ [n])).map entD)] := rfl
        rw [w]
        simp (decide := true) only [b_law_left_out_4, evSs, evS, evE, evT, evEs, evAs, evO, evC, evR, evSc, evScN, srcN, slotC, R.ok_bind, R.exc_bind, R.bad_bind, R.ok_out, R.exc_out, R.bad_out, setS, cn_im, cn_own, cn_bor, cn_chg, cn_lst, cn_dct, cn_set, datR_im, datR_lst, tru_none, tru_bool, tru_int, tru_list, tru_tuple, trd_none, trd_bool, trd_int, trd_list, trd_tuple, len_list, len_tuple, len_dct, cv_int, cv_tup1, cv_tup2, cv_lst1, cv_lst2, slD_int, slD_tuple, slD_str, slD_list,
  isi_none, isi_bool, isi_int, isi_str, isi_tuple, isi_list, isTy, arg_im, arg_own, grd_true, get_0, get_s, var_eq, mov_eq, bor_eq, mut_eq, put_eq, fin_eq, lk_eq, un_eq, var_im, var_own, mov_im, mov_own, bor_im, bor_own, bor_bor, bor_chg, mut_own, mut_chg, put_own, put_chg, puts_nil, puts_cons, app_own, app_chg, isl_list, isd_dct, fin_nil, fin_im, fin_bor, fin_own, fin_chg, out_ret, out_nx, ob_nx, ob_ret, ob_brk, ob_cnt, ul_nx, ul_ret, bp_im, bp_own, bp_t, bps_nil, bps_cons, lk_nil, lk_im, lk_bor, lk_own, lk_chg, un_nil, un_own, un_chg, un_im, un_bor, nox_ok, if_true, if_false, Bool.false_eq_true, as_nil, as_e, as_bor, as_chg,
  As.muts, As.bors, Sc.locks, Rdo.locks, Pt.slots, Pt.slotss, wipeS, backS, bAdd, bSub, c_lt, c_le, c_gt, c_ge, c_eq, c_ne, c_eqs, augD, itemsE, itemsS, isN_none, isN_bool, isN_int, isN_str, isN_tuple, isN_list, opt_none, Bool.xor_false, Bool.false_xor, Bool.true_xor, Bool.xor_true,
  List.getElem?_cons_zero, List.getElem?_cons_succ, List.getElem?_nil, List.set_cons_zero, List.set_cons_succ, List.length_cons, List.length_nil, List.map_cons, List.map_nil, Bool.true_and, Bool.and_true, Bool.not_true, Bool.not_false, Bool.and_self, List.all_nil, List.all_cons, List.nodup_nil, List.nodup_cons, List.not_mem_nil, not_false_eq_true, and_true, List.contains_nil, List.contains_eq_mem, decide_true, decide_false, Option.getD_some, Option.getD_none, ob_kind, Ob.kindS, ob_num, Ob.num, tab_2, lp, List.length_map, l1, app_own hl2]) [some (.im h.d), some (.im (.int n)), some (.own (.lst [])), none, none, none] ⟨none, rfl⟩
  subst h2
  have l1 := loopC_g (p := .v 4) (own := [4]) (ρ := [some (.im h.d), some (.im (.int n)), some (.own (.lst (h.objs.map fun o => (o.wo [n]).d))), x3, none, none]) (c := evC (C k) .no) (f := fun ρ => datR (evE (C k) e_law_left_out_0 ρ)) optD (fun r => [some (.im h.d), some (.im (.int n)), some (.own (.lst (h.objs.map fun o => (o.wo [n]).d))), x3, some (.im (optD r)), none]) (fun _ => true) (fun r => optD (optOut [n] r)) h.regs
    (fun r _ => ⟨bp_im, evC_no, fun _ => by
      rw [optOut_if, optIn_one]
      by_cases e : r = some n <;> simp (decide := true) only [e_law_left_out_0, evSs, evS, evE, evT, evEs, evAs, evO, evC, evR, evSc, evScN, srcN, slotC, R.ok_bind, R.exc_bind, R.bad_bind, R.ok_out, R.exc_out, R.bad_out, setS, cn_im, cn_own, cn_bor, cn_chg, cn_lst, cn_dct, cn_set, datR_im, datR_lst, tru_none, tru_bool, tru_int, tru_list, tru_tuple, trd_none, trd_bool, trd_int, trd_list, trd_tuple, len_list, len_tuple, len_dct, cv_int, cv_tup1, cv_tup2, cv_lst1, cv_lst2, slD_int, slD_tuple, slD_str, slD_list,
  isi_none, isi_bool, isi_int, isi_str, isi_tuple, isi_list, isTy, arg_im, arg_own, grd_true, get_0, get_s, var_eq, mov_eq, bor_eq, mut_eq, put_eq, fin_eq, lk_eq, un_eq, var_im, var_own, mov_im, mov_own, bor_im, bor_own, bor_bor, bor_chg, mut_own, mut_chg, put_own, put_chg, puts_nil, puts_cons, app_own, app_chg, isl_list, isd_dct, fin_nil, fin_im, fin_bor, fin_own, fin_chg, out_ret, out_nx, ob_nx, ob_ret, ob_brk, ob_cnt, ul_nx, ul_ret, bp_im, bp_own, bp_t, bps_nil, bps_cons, lk_nil, lk_im, lk_bor, lk_own, lk_chg, un_nil, un_own, un_chg, un_im, un_bor, nox_ok, if_true, if_false, Bool.false_eq_true, as_nil, as_e, as_bor, as_chg,
  As.muts, As.bors, Sc.locks, Rdo.locks, Pt.slots, Pt.slotss, wipeS, backS, bAdd, bSub, c_lt, c_le, c_gt, c_ge, c_eq, c_ne, c_eqs, augD, itemsE, itemsS, isN_none, isN_bool, isN_int, isN_str, isN_tuple, isN_list, opt_none, Bool.xor_false, Bool.false_xor, Bool.true_xor, Bool.xor_true,
  List.getElem?_cons_zero, List.getElem?_cons_succ, List.getElem?_nil, List.set_cons_zero, List.set_cons_succ, List.length_cons, List.length_nil, List.map_cons, List.map_nil, Bool.true_and, Bool.and_true, Bool.not_true, Bool.not_false, Bool.and_self, List.all_nil, List.all_cons, List.nodup_nil, List.nodup_cons, List.not_mem_nil, not_false_eq_true, and_true, List.contains_nil, List.contains_eq_mem, decide_true, decide_false, Option.getD_some, Option.getD_none, eq_opt, e], rfl⟩)
  rw [filter_all] at l1
  have q1 : h.regs.length ≤ lineN := by unfold lineN; omega
  have e0 : (Hx.lo h [n]).d = .tuple [.str "heap", .int h.nx, .tuple (h.regs.map fun r => optD (optOut [n] r)), intsT h.kept, .tuple (h.objs.map fun o => (o.wo [n]).d), .tuple (h.wat.map entD)] := by
    unfold Hx.lo
    rw [hx_d]
    simp only [List.map_map]
    rfl
  rw [e0]
  have ad : ∀ a b c d e f, binD .add (.tuple [a, b]) (.tuple [c, d, e, f]) = .ok (.tuple [a, b, c, d, e, f]) := fun _ _ _ _ _ _ => rfl
  simp (decide := true) only [evSs, evS, evE, evT, evEs, evAs, evO, evC, evR, evSc, evScN, srcN, slotC, R.ok_bind, R.exc_bind, R.bad_bind, R.ok_out, R.exc_out, R.bad_out, setS, cn_im, cn_own, cn_bor, cn_chg, cn_lst, cn_dct, cn_set, datR_im, datR_lst, tru_none, tru_bool, tru_int, tru_list, tru_tuple, trd_none, trd_bool, trd_int, trd_list, trd_tuple, len_list, len_tuple, len_dct, cv_int, cv_tup1, cv_tup2, cv_lst1, cv_lst2, slD_int, slD_tuple, slD_str, slD_list,
  isi_none, isi_bool, isi_int, isi_str, isi_tuple, isi_list, isTy, arg_im, arg_own, grd_true, get_0, get_s, var_eq, mov_eq, bor_eq, mut_eq, put_eq, fin_eq, lk_eq, un_eq, var_im, var_own, mov_im, mov_own, bor_im, bor_own, bor_bor, bor_chg, mut_own, mut_chg, put_own, put_chg, puts_nil, puts_cons, app_own, app_chg, isl_list, isd_dct, fin_nil, fin_im, fin_bor, fin_own, fin_chg, out_ret, out_nx, ob_nx, ob_ret, ob_brk, ob_cnt, ul_nx, ul_ret, bp_im, bp_own, bp_t, bps_nil, bps_cons, lk_nil, lk_im, lk_bor, lk_own, lk_chg, un_nil, un_own, un_chg, un_im, un_bor, nox_ok, if_true, if_false, Bool.false_eq_true, as_nil, as_e, as_bor, as_chg,
  As.muts, As.bors, Sc.locks, Rdo.locks, Pt.slots, Pt.slotss, wipeS, backS, bAdd, bSub, c_lt, c_le, c_gt, c_ge, c_eq, c_ne, c_eqs, augD, itemsE, itemsS, isN_none, isN_bool, isN_int, isN_str, isN_tuple, isN_list, opt_none, Bool.xor_false, Bool.false_xor, Bool.true_xor, Bool.xor_true,
  List.getElem?_cons_zero, List.getElem?_cons_succ, List.getElem?_nil, List.set_cons_zero, List.set_cons_succ, List.length_cons, List.length_nil, List.map_cons, List.map_nil, Bool.true_and, Bool.and_true, Bool.not_true, Bool.not_false, Bool.and_self, List.all_nil, List.all_cons, List.nodup_nil, List.nodup_cons, List.not_mem_nil, not_false_eq_true, and_true, List.contains_nil, List.contains_eq_mem, decide_true, decide_false, Option.getD_some, Option.getD_none, hx_4, h1, hx_cut2, hx_2, l1, List.length_map, q1, hx_3, hx_5, ad]
end K23

set_option Elab.async false
set_option linter.all false
set_option maxRecDepth 100000
set_option maxHeartbeats 0
namespace K23
open PySem PySem.Spec L2 Wk
noncomputable def tabD (h : Hx) (ys : List Int) : List (D × D) := ys.map fun n => (PyData.int n, intsT (retD h n))
theorem set_tab {h : Hx} (hk : h.Ok) {ys zs : List Int} {n : Int} (e : h.nums = ys ++ n :: zs) : setC (.int n) (intsT (retD h n)) (.own (.dct (tabD h ys))) = .ok (.own (.dct (tabD h (ys ++ [n])))) := by
  have nd := hk.nodup
  have few := hk.few
  have hl : (tabD h ys).length < lineN := by
    unfold tabD
    have := congrArg List.length e
    rw [List.length_append, List.length_cons] at this
    rw [List.length_map]; unfold lineN; omega
  have hn : n ∉ ys := fun q => by
    rw [e, List.nodup_append] at nd
    exact nd.2.2 n q n (by simp) rfl
  show guardR (true && decide ((tabD h ys).length < lineN)) (R.ok (Sl.own (.dct (putD (.int n) (intsT (retD h n)) (tabD h ys))))) = _
  rw [decide_eq_true hl]
  have := put_new (fun n : Int => n) (fun n => intsT (retD h n)) (b := n) (l := ys) (by simpa using hn)
  unfold tabD
  rw [this]; rfl
theorem look_tab {h : Hx} (hk : h.Ok) {n : Int} (hn : n ∈ h.nums) : idxD (.dct (tabD h h.nums)) (.int n) = .ok (intsT (retD h n)) :=
  idxK rfl (look_key (fun n : Int => n) (fun n => intsT (retD h n)) (by simpa using hk.nodup) hn)
theorem retD_nums {h : Hx} (hk : h.Ok) {n m : Int} (hm : m ∈ retD h n) : m ∈ h.nums := ((mem_retD hk).mp hm).2.1.nums hk
/-- the first loop's turn -/
theorem turn1 {k : Nat} {s0 : Sl} {bx : Ct} {h : Hx} (hk : h.Ok) {ys zs : List Int} {n : Int} (e : h.nums = ys ++ n :: zs) {x7 x8 : Option Sl} :
    ∃ x7' x8', evSs (C (k + 7)) 200 b_law_7 [some s0, some (.own bx), some (.im h.d), some (.bor (.lst (h.nums.map PyData.int))), some (.own (.lst ((h.obt h.nums).map PyData.int))), some (.own (.dct (tabD h ys))), some (.im (.int n)), x7, x8, none, none] =
      .nx [some s0, some (.own bx), some (.im h.d), some (.bor (.lst (h.nums.map PyData.int))), some (.own (.lst ((h.obt h.nums).map PyData.int))), some (.own (.dct (tabD h (ys ++ [n])))), some (.im (.int n)), x7', x8', none, none] := by
  have few := hk.few
  have ol : (h.obt h.nums).length ≤ h.nums.length := List.length_filter_le ..
  have l1 := lleft_out_ok (k := k + 6) hk (n := n)
  have l2 := lobtainable_ok (k := k + 5) (Hx.lo_ok hk [n]) (intsP_b h.nums)
  have l3 := retained_ok (k := k + 1) hk (n := n)
  have l4 := set_tab hk e
  have l5 := same_ok (k := k + 5) 1 (intsT (retD h n)) (plain_ints 0 (by have := retD_len hk n; omega))
  unfold b_law_7
  by_cases hn : n ∈ h.obt h.nums
  · refine ⟨some (.own (.lst (((h.lo [n]).obt h.nums).map PyData.int))), some (.im (intsT (retD h n))), ?_⟩
    have e1 : retD h n = (h.obt h.nums).filter fun m => decide (m = n) || !decide (m ∈ (h.lo [n]).obt h.nums) := by unfold retD; rw [if_pos hn]
    have lp := loopC_g (p := .v 9) (own := [9]) (ρ := [some s0, some (.own bx), some (.im h.d), some (.bor (.lst (h.nums.map PyData.int))), some (.bor (.lst ((h.obt h.nums).map PyData.int))), some (.own (.dct (tabD h ys))), some (.im (.int n)), some (.own (.lst (((h.lo [n]).obt h.nums).map PyData.int))), some (.im (.tuple [])), none, none]) (c := evC (C (k + 7)) c_law_6) (f := fun ρ => datR (evE (C (k + 7)) e_law_5 ρ)) PyData.int
      (fun x => [some s0, some (.own bx), some (.im h.d), some (.bor (.lst (h.nums.map PyData.int))), some (.bor (.lst ((h.obt h.nums).map PyData.int))), some (.own (.dct (tabD h ys))), some (.im (.int n)), some (.own (.lst (((h.lo [n]).obt h.nums).map PyData.int))), some (.im (.tuple [])), some (.im (.int x)), none]) (fun m => decide (m = n) || !decide (m ∈ (h.lo [n]).obt h.nums)) PyData.int (h.obt h.nums)
      (fun m _ => ⟨bp_im, (by by_cases e : m = n <;> simp (decide := true) only [c_law_6, evSs, evS, evE, evT, evEs, evAs, evO, evC, evR, evSc, evScN, srcN, slotC, R.ok_bind, R.exc_bind, R.bad_bind, R.ok_out, R.exc_out, R.bad_out, setS, cn_im, cn_own, cn_bor, cn_chg, cn_lst, cn_dct, cn_set, datR_im, datR_lst, tru_none, tru_bool, tru_int, tru_list, tru_tuple, trd_none, trd_bool, trd_int, trd_list, trd_tuple, len_list, len_tuple, len_dct, cv_int, cv_tup1, cv_tup2, cv_lst1, cv_lst2, slD_int, slD_tuple, slD_str, slD_list,
  isi_none, isi_bool, isi_int, isi_str, isi_tuple, isi_list, isTy, arg_im, arg_own, grd_true, get_0, get_s, var_eq, mov_eq, bor_eq, mut_eq, put_eq, fin_eq, lk_eq, un_eq, var_im, var_own, mov_im, mov_own, bor_im, bor_own, bor_bor, bor_chg, mut_own, mut_chg, put_own, put_chg, puts_nil, puts_cons, app_own, app_chg, isl_list, isd_dct, fin_nil, fin_im, fin_bor, fin_own, fin_chg, out_ret, out_nx, ob_nx, ob_ret, ob_brk, ob_cnt, ul_nx, ul_ret, bp_im, bp_own, bp_t, bps_nil, bps_cons, lk_nil, lk_im, lk_bor, lk_own, lk_chg, un_nil, un_own, un_chg, un_im, un_bor, nox_ok, if_true, if_false, Bool.false_eq_true, as_nil, as_e, as_bor, as_chg,
  As.muts, As.bors, Sc.locks, Rdo.locks, Pt.slots, Pt.slotss, wipeS, backS, bAdd, bSub, c_lt, c_le, c_gt, c_ge, c_eq, c_ne, c_eqs, augD, itemsE, itemsS, isN_none, isN_bool, isN_int, isN_str, isN_tuple, isN_list, opt_none, Bool.xor_false, Bool.false_xor, Bool.true_xor, Bool.xor_true,
  List.getElem?_cons_zero, List.getElem?_cons_succ, List.getElem?_nil, List.set_cons_zero, List.set_cons_succ, List.length_cons, List.length_nil, List.map_cons, List.map_nil, Bool.true_and, Bool.and_true, Bool.not_true, Bool.not_false, Bool.and_self, List.all_nil, List.all_cons, List.nodup_nil, List.nodup_cons, List.not_mem_nil, not_false_eq_true, and_true, List.contains_nil, List.contains_eq_mem, decide_true, decide_false, Option.getD_some, Option.getD_none, mem_intsL, e, Bool.true_or, Bool.false_or]), fun _ => by simp only [e_law_5, evSs, evS, evE, evT, evEs, evAs, evO, evC, evR, evSc, evScN, srcN, slotC, R.ok_bind, R.exc_bind, R.bad_bind, R.ok_out, R.exc_out, R.bad_out, setS, cn_im, cn_own, cn_bor, cn_chg, cn_lst, cn_dct, cn_set, datR_im, datR_lst, tru_none, tru_bool, tru_int, tru_list, tru_tuple, trd_none, trd_bool, trd_int, trd_list, trd_tuple, len_list, len_tuple, len_dct, cv_int, cv_tup1, cv_tup2, cv_lst1, cv_lst2, slD_int, slD_tuple, slD_str, slD_list,
  isi_none, isi_bool, isi_int, isi_str, isi_tuple, isi_list, isTy, arg_im, arg_own, grd_true, get_0, get_s, var_eq, mov_eq, bor_eq, mut_eq, put_eq, fin_eq, lk_eq, un_eq, var_im, var_own, mov_im, mov_own, bor_im, bor_own, bor_bor, bor_chg, mut_own, mut_chg, put_own, put_chg, puts_nil, puts_cons, app_own, app_chg, isl_list, isd_dct, fin_nil, fin_im, fin_bor, fin_own, fin_chg, out_ret, out_nx, ob_nx, ob_ret, ob_brk, ob_cnt, ul_nx, ul_ret, bp_im, bp_own, bp_t, bps_nil, bps_cons, lk_nil, lk_im, lk_bor, lk_own, lk_chg, un_nil, un_own, un_chg, un_im, un_bor, nox_ok, if_true, if_false, Bool.false_eq_true, as_nil, as_e, as_bor, as_chg,
  As.muts, As.bors, Sc.locks, Rdo.locks, Pt.slots, Pt.slotss, wipeS, backS, bAdd, bSub, c_lt, c_le, c_gt, c_ge, c_eq, c_ne, c_eqs, augD, itemsE, itemsS, isN_none, isN_bool, isN_int, isN_str, isN_tuple, isN_list, opt_none, Bool.xor_false, Bool.false_xor, Bool.true_xor, Bool.xor_true,
  List.getElem?_cons_zero, List.getElem?_cons_succ, List.getElem?_nil, List.set_cons_zero, List.set_cons_succ, List.length_cons, List.length_nil, List.map_cons, List.map_nil, Bool.true_and, Bool.and_true, Bool.not_true, Bool.not_false, Bool.and_self, List.all_nil, List.all_cons, List.nodup_nil, List.nodup_cons, List.not_mem_nil, not_false_eq_true, and_true, List.contains_nil, List.contains_eq_mem, decide_true, decide_false, Option.getD_some, Option.getD_none], rfl⟩)
    rw [← e1] at lp
    have q1 : (retD h n).length ≤ lineN := by have := retD_len hk n; unfold lineN; omega
    simp (decide := true) only [evSs, evS, evE, evT, evEs, evAs, evO, evC, evR, evSc, evScN, srcN, slotC, R.ok_bind, R.exc_bind, R.bad_bind, R.ok_out, R.exc_out, R.bad_out, setS, cn_im, cn_own, cn_bor, cn_chg, cn_lst, cn_dct, cn_set, datR_im, datR_lst, tru_none, tru_bool, tru_int, tru_list, tru_tuple, trd_none, trd_bool, trd_int, trd_list, trd_tuple, len_list, len_tuple, len_dct, cv_int, cv_tup1, cv_tup2, cv_lst1, cv_lst2, slD_int, slD_tuple, slD_str, slD_list,
  isi_none, isi_bool, isi_int, isi_str, isi_tuple, isi_list, isTy, arg_im, arg_own, grd_true, get_0, get_s, var_eq, mov_eq, bor_eq, mut_eq, put_eq, fin_eq, lk_eq, un_eq, var_im, var_own, mov_im, mov_own, bor_im, bor_own, bor_bor, bor_chg, mut_own, mut_chg, put_own, put_chg, puts_nil, puts_cons, app_own, app_chg, isl_list, isd_dct, fin_nil, fin_im, fin_bor, fin_own, fin_chg, out_ret, out_nx, ob_nx, ob_ret, ob_brk, ob_cnt, ul_nx, ul_ret, bp_im, bp_own, bp_t, bps_nil, bps_cons, lk_nil, lk_im, lk_bor, lk_own, lk_chg, un_nil, un_own, un_chg, un_im, un_bor, nox_ok, if_true, if_false, Bool.false_eq_true, as_nil, as_e, as_bor, as_chg,
  As.muts, As.bors, Sc.locks, Rdo.locks, Pt.slots, Pt.slotss, wipeS, backS, bAdd, bSub, c_lt, c_le, c_gt, c_ge, c_eq, c_ne, c_eqs, augD, itemsE, itemsS, isN_none, isN_bool, isN_int, isN_str, isN_tuple, isN_list, opt_none, Bool.xor_false, Bool.false_xor, Bool.true_xor, Bool.xor_true,
  List.getElem?_cons_zero, List.getElem?_cons_succ, List.getElem?_nil, List.set_cons_zero, List.set_cons_succ, List.length_cons, List.length_nil, List.map_cons, List.map_nil, Bool.true_and, Bool.and_true, Bool.not_true, Bool.not_false, Bool.and_self, List.all_nil, List.all_cons, List.nodup_nil, List.nodup_cons, List.not_mem_nil, not_false_eq_true, and_true, List.contains_nil, List.contains_eq_mem, decide_true, decide_false, Option.getD_some, Option.getD_none, l1, l2, mem_intsL, hn, lp, List.length_map, q1, l4, l3, l5]
  · have e1 : retD h n = [] := by unfold retD; rw [if_neg hn]
    rw [e1] at l3 l4 l5
    refine ⟨some (.own (.lst (((h.lo [n]).obt h.nums).map PyData.int))), some (.im (.tuple [])), ?_⟩
    have l3 : C (k + 7) i_retained [.im h.d, .im (.int n)] = .ok (.im (.tuple []), []) := l3
    have l4 : setC (.int n) (.tuple []) (.own (.dct (tabD h ys))) = .ok (.own (.dct (tabD h (ys ++ [n])))) := l4
    have l5 : C (k + 7) i_law_same [.im (.tuple []), .im (.tuple [])] = .ok (.im (.bool true), []) := l5
    simp (decide := true) only [evSs, evS, evE, evT, evEs, evAs, evO, evC, evR, evSc, evScN, srcN, slotC, R.ok_bind, R.exc_bind, R.bad_bind, R.ok_out, R.exc_out, R.bad_out, setS, cn_im, cn_own, cn_bor, cn_chg, cn_lst, cn_dct, cn_set, datR_im, datR_lst, tru_none, tru_bool, tru_int, tru_list, tru_tuple, trd_none, trd_bool, trd_int, trd_list, trd_tuple, len_list, len_tuple, len_dct, cv_int, cv_tup1, cv_tup2, cv_lst1, cv_lst2, slD_int, slD_tuple, slD_str, slD_list,
  isi_none, isi_bool, isi_int, isi_str, isi_tuple, isi_list, isTy, arg_im, arg_own, grd_true, get_0, get_s, var_eq, mov_eq, bor_eq, mut_eq, put_eq, fin_eq, lk_eq, un_eq, var_im, var_own, mov_im, mov_own, bor_im, bor_own, bor_bor, bor_chg, mut_own, mut_chg, put_own, put_chg, puts_nil, puts_cons, app_own, app_chg, isl_list, isd_dct, fin_nil, fin_im, fin_bor, fin_own, fin_chg, out_ret, out_nx, ob_nx, ob_ret, ob_brk, ob_cnt, ul_nx, ul_ret, bp_im, bp_own, bp_t, bps_nil, bps_cons, lk_nil, lk_im, lk_bor, lk_own, lk_chg, un_nil, un_own, un_chg, un_im, un_bor, nox_ok, if_true, if_false, Bool.false_eq_true, as_nil, as_e, as_bor, as_chg,
  As.muts, As.bors, Sc.locks, Rdo.locks, Pt.slots, Pt.slotss, wipeS, backS, bAdd, bSub, c_lt, c_le, c_gt, c_ge, c_eq, c_ne, c_eqs, augD, itemsE, itemsS, isN_none, isN_bool, isN_int, isN_str, isN_tuple, isN_list, opt_none, Bool.xor_false, Bool.false_xor, Bool.true_xor, Bool.xor_true,
  List.getElem?_cons_zero, List.getElem?_cons_succ, List.getElem?_nil, List.set_cons_zero, List.set_cons_succ, List.length_cons, List.length_nil, List.map_cons, List.map_nil, Bool.true_and, Bool.and_true, Bool.not_true, Bool.not_false, Bool.and_self, List.all_nil, List.all_cons, List.nodup_nil, List.nodup_cons, List.not_mem_nil, not_false_eq_true, and_true, List.contains_nil, List.contains_eq_mem, decide_true, decide_false, Option.getD_some, Option.getD_none, l1, l2, mem_intsL, hn, l4, l3, l5]
/-- the second one's -/
theorem turn2 {k : Nat} {s0 : Sl} {bx : Ct} {th : List D} {h : Hx} (hk : h.Ok) {n : Int} (hn : n ∈ h.nums) {x7 x8 x9 x10 : Option Sl} :
    ∃ x9' x10', evSs (C (k + 8)) 200 b_law_4 [some s0, some (.own bx), some (.im h.d), some (.bor (.lst (h.nums.map PyData.int))), some (.own (.lst th)), some (.own (.dct (tabD h h.nums))), some (.im (.int n)), x7, x8, x9, x10] =
      .nx [some s0, some (.own bx), some (.im h.d), some (.bor (.lst (h.nums.map PyData.int))), some (.own (.lst th)), some (.own (.dct (tabD h h.nums))), some (.im (.int n)), x7, x8, x9', x10'] := by
  have few := hk.few
  have l1 := dominators_ok (k := k) hk (n := n)
  have q0 := List.length_filter_le (fun m => decide (n ∈ retD h m)) h.nums
  have l2 := same_ok (k := k + 6) 1 (intsT (h.nums.filter fun m => decide (n ∈ retD h m))) (plain_ints 0 (by omega))
  have lp := loopC_g (p := .v 9) (own := [9]) (ρ := [some s0, some (.own bx), some (.im h.d), some (.bor (.lst (h.nums.map PyData.int))), some (.own (.lst th)), some (.own (.dct (tabD h h.nums))), some (.im (.int n)), x7, x8, none, x10]) (c := evC (C (k + 8)) c_law_3) (f := fun ρ => datR (evE (C (k + 8)) e_law_2 ρ)) PyData.int
    (fun x => [some s0, some (.own bx), some (.im h.d), some (.bor (.lst (h.nums.map PyData.int))), some (.own (.lst th)), some (.own (.dct (tabD h h.nums))), some (.im (.int n)), x7, x8, some (.im (.int x)), x10]) (fun m => decide (n ∈ retD h m)) PyData.int h.nums
    (fun m hm => ⟨bp_im, (by simp (decide := true) only [c_law_3, evSs, evS, evE, evT, evEs, evAs, evO, evC, evR, evSc, evScN, srcN, slotC, R.ok_bind, R.exc_bind, R.bad_bind, R.ok_out, R.exc_out, R.bad_out, setS, cn_im, cn_own, cn_bor, cn_chg, cn_lst, cn_dct, cn_set, datR_im, datR_lst, tru_none, tru_bool, tru_int, tru_list, tru_tuple, trd_none, trd_bool, trd_int, trd_list, trd_tuple, len_list, len_tuple, len_dct, cv_int, cv_tup1, cv_tup2, cv_lst1, cv_lst2, slD_int, slD_tuple, slD_str, slD_list,
  isi_none, isi_bool, isi_int, isi_str, isi_tuple, isi_list, isTy, arg_im, arg_own, grd_true, get_0, get_s, var_eq, mov_eq, bor_eq, mut_eq, put_eq, fin_eq, lk_eq, un_eq, var_im, var_own, mov_im, mov_own, bor_im, bor_own, bor_bor, bor_chg, mut_own, mut_chg, put_own, put_chg, puts_nil, puts_cons, app_own, app_chg, isl_list, isd_dct, fin_nil, fin_im, fin_bor, fin_own, fin_chg, out_ret, out_nx, ob_nx, ob_ret, ob_brk, ob_cnt, ul_nx, ul_ret, bp_im, bp_own, bp_t, bps_nil, bps_cons, lk_nil, lk_im, lk_bor, lk_own, lk_chg, un_nil, un_own, un_chg, un_im, un_bor, nox_ok, if_true, if_false, Bool.false_eq_true, as_nil, as_e, as_bor, as_chg,
  As.muts, As.bors, Sc.locks, Rdo.locks, Pt.slots, Pt.slotss, wipeS, backS, bAdd, bSub, c_lt, c_le, c_gt, c_ge, c_eq, c_ne, c_eqs, augD, itemsE, itemsS, isN_none, isN_bool, isN_int, isN_str, isN_tuple, isN_list, opt_none, Bool.xor_false, Bool.false_xor, Bool.true_xor, Bool.xor_true,
  List.getElem?_cons_zero, List.getElem?_cons_succ, List.getElem?_nil, List.set_cons_zero, List.set_cons_succ, List.length_cons, List.length_nil, List.map_cons, List.map_nil, Bool.true_and, Bool.and_true, Bool.not_true, Bool.not_false, Bool.and_self, List.all_nil, List.all_cons, List.nodup_nil, List.nodup_cons, List.not_mem_nil, not_false_eq_true, and_true, List.contains_nil, List.contains_eq_mem, decide_true, decide_false, Option.getD_some, Option.getD_none, mem_ints, look_tab hk hm]), fun _ => by simp only [e_law_2, evSs, evS, evE, evT, evEs, evAs, evO, evC, evR, evSc, evScN, srcN, slotC, R.ok_bind, R.exc_bind, R.bad_bind, R.ok_out, R.exc_out, R.bad_out, setS, cn_im, cn_own, cn_bor, cn_chg, cn_lst, cn_dct, cn_set, datR_im, datR_lst, tru_none, tru_bool, tru_int, tru_list, tru_tuple, trd_none, trd_bool, trd_int, trd_list, trd_tuple, len_list, len_tuple, len_dct, cv_int, cv_tup1, cv_tup2, cv_lst1, cv_lst2, slD_int, slD_tuple, slD_str, slD_list,
  isi_none, isi_bool, isi_int, isi_str, isi_tuple, isi_list, isTy, arg_im, arg_own, grd_true, get_0, get_s, var_eq, mov_eq, bor_eq, mut_eq, put_eq, fin_eq, lk_eq, un_eq, var_im, var_own, mov_im, mov_own, bor_im, bor_own, bor_bor, bor_chg, mut_own, mut_chg, put_own, put_chg, puts_nil, puts_cons, app_own, app_chg, isl_list, isd_dct, fin_nil, fin_im, fin_bor, fin_own, fin_chg, out_ret, out_nx, ob_nx, ob_ret, ob_brk, ob_cnt, ul_nx, ul_ret, bp_im, bp_own, bp_t, bps_nil, bps_cons, lk_nil, lk_im, lk_bor, lk_own, lk_chg, un_nil, un_own, un_chg, un_im, un_bor, nox_ok, if_true, if_false, Bool.false_eq_true, as_nil, as_e, as_bor, as_chg,
  As.muts, As.bors, Sc.locks, Rdo.locks, Pt.slots, Pt.slotss, wipeS, backS, bAdd, bSub, c_lt, c_le, c_gt, c_ge, c_eq, c_ne, c_eqs, augD, itemsE, itemsS, isN_none, isN_bool, isN_int, isN_str, isN_tuple, isN_list, opt_none, Bool.xor_false, Bool.false_xor, Bool.true_xor, Bool.xor_true,
  List.getElem?_cons_zero, List.getElem?_cons_succ, List.getElem?_nil, List.set_cons_zero, List.set_cons_succ, List.length_cons, List.length_nil, List.map_cons, List.map_nil, Bool.true_and, Bool.and_true, Bool.not_true, Bool.not_false, Bool.and_self, List.all_nil, List.all_cons, List.nodup_nil, List.nodup_cons, List.not_mem_nil, not_false_eq_true, and_true, List.contains_nil, List.contains_eq_mem, decide_true, decide_false, Option.getD_some, Option.getD_none], rfl⟩)
  have q1 : (h.nums.filter fun m => decide (n ∈ retD h m)).length ≤ lineN := by unfold lineN; omega
  obtain ⟨ρ', h1, x9', x10', h2⟩ := loopF_0 (p := .v 9) (b := evSs (C (k + 8)) 200 b_law_1) PyData.int (fun ρ => ∃ x9 x10, ρ = [some s0, some (.own bx), some (.im h.d), some (.bor (.lst (h.nums.map PyData.int))), some (.own (.lst th)), some (.own (.dct (tabD h h.nums))), some (.im (.int n)), x7, x8, x9, x10]) (retD h n)
    (fun m hm ρ ⟨x9, x10, h2⟩ => by
      subst h2
      have hmn := retD_nums hk hm
      have r1 := (mem_retD hk).mp hm
      obtain ⟨ρ3, h3, y10, h4⟩ := loopF_0 (p := .v 10) (b := evSs (C (k + 8)) 200 b_law_0) PyData.int (fun ρ => ∃ x10, ρ = [some s0, some (.own bx), some (.im h.d), some (.bor (.lst (h.nums.map PyData.int))), some (.own (.lst th)), some (.own (.dct (tabD h h.nums))), some (.im (.int n)), x7, x8, some (.im (.int m)), x10]) (retD h m)
        (fun p hp ρ ⟨x10, h2⟩ => by
          subst h2
          have hp2 : p ∈ retD h n := (mem_retD hk).mpr (ret_trans r1 ((mem_retD hk).mp hp))
          refine ⟨_, [some s0, some (.own bx), some (.im h.d), some (.bor (.lst (h.nums.map PyData.int))), some (.own (.lst th)), some (.own (.dct (tabD h h.nums))), some (.im (.int n)), x7, x8, some (.im (.int m)), some (.im (.int p))], bp_im, ?_, _, rfl⟩
          simp (decide := true) only [b_law_0, evSs, evS, evE, evT, evEs, evAs, evO, evC, evR, evSc, evScN, srcN, slotC, R.ok_bind, R.exc_bind, R.bad_bind, R.ok_out, R.exc_out, R.bad_out, setS, cn_im, cn_own, cn_bor, cn_chg, cn_lst, cn_dct, cn_set, datR_im, datR_lst, tru_none, tru_bool, tru_int, tru_list, tru_tuple, trd_none, trd_bool, trd_int, trd_list, trd_tuple, len_list, len_tuple, len_dct, cv_int, cv_tup1, cv_tup2, cv_lst1, cv_lst2, slD_int, slD_tuple, slD_str, slD_list,
  isi_none, isi_bool, isi_int, isi_str, isi_tuple, isi_list, isTy, arg_im, arg_own, grd_true, get_0, get_s, var_eq, mov_eq, bor_eq, mut_eq, put_eq, fin_eq, lk_eq, un_eq, var_im, var_own, mov_im, mov_own, bor_im, bor_own, bor_bor, bor_chg, mut_own, mut_chg, put_own, put_chg, puts_nil, puts_cons, app_own, app_chg, isl_list, isd_dct, fin_nil, fin_im, fin_bor, fin_own, fin_chg, out_ret, out_nx, ob_nx, ob_ret, ob_brk, ob_cnt, ul_nx, ul_ret, bp_im, bp_own, bp_t, bps_nil, bps_cons, lk_nil, lk_im, lk_bor, lk_own, lk_chg, un_nil, un_own, un_chg, un_im, un_bor, nox_ok, if_true, if_false, Bool.false_eq_true, as_nil, as_e, as_bor, as_chg,
  As.muts, As.bors, Sc.locks, Rdo.locks, Pt.slots, Pt.slotss, wipeS, backS, bAdd, bSub, c_lt, c_le, c_gt, c_ge, c_eq, c_ne, c_eqs, augD, itemsE, itemsS, isN_none, isN_bool, isN_int, isN_str, isN_tuple, isN_list, opt_none, Bool.xor_false, Bool.false_xor, Bool.true_xor, Bool.xor_true,
  List.getElem?_cons_zero, List.getElem?_cons_succ, List.getElem?_nil, List.set_cons_zero, List.set_cons_succ, List.length_cons, List.length_nil, List.map_cons, List.map_nil, Bool.true_and, Bool.and_true, Bool.not_true, Bool.not_false, Bool.and_self, List.all_nil, List.all_cons, List.nodup_nil, List.nodup_cons, List.not_mem_nil, not_false_eq_true, and_true, List.contains_nil, List.contains_eq_mem, decide_true, decide_false, Option.getD_some, Option.getD_none, look_tab hk hn, mem_ints, hp2]) [some s0, some (.own bx), some (.im h.d), some (.bor (.lst (h.nums.map PyData.int))), some (.own (.lst th)), some (.own (.dct (tabD h h.nums))), some (.im (.int n)), x7, x8, some (.im (.int m)), x10] ⟨x10, rfl⟩
      subst h4
      refine ⟨_, [some s0, some (.own bx), some (.im h.d), some (.bor (.lst (h.nums.map PyData.int))), some (.own (.lst th)), some (.own (.dct (tabD h h.nums))), some (.im (.int n)), x7, x8, some (.im (.int m)), y10], bp_im, ?_, _, _, rfl⟩
      by_cases e : m = n
      · simp (decide := true) only [b_law_1, evSs, evS, evE, evT, evEs, evAs, evO, evC, evR, evSc, evScN, srcN, slotC, R.ok_bind, R.exc_bind, R.bad_bind, R.ok_out, R.exc_out, R.bad_out, setS, cn_im, cn_own, cn_bor, cn_chg, cn_lst, cn_dct, cn_set, datR_im, datR_lst, tru_none, tru_bool, tru_int, tru_list, tru_tuple, trd_none, trd_bool, trd_int, trd_list, trd_tuple, len_list, len_tuple, len_dct, cv_int, cv_tup1, cv_tup2, cv_lst1, cv_lst2, slD_int, slD_tuple, slD_str, slD_list,
  isi_none, isi_bool, isi_int, isi_str, isi_tuple, isi_list, isTy, arg_im, arg_own, grd_true, get_0, get_s, var_eq, mov_eq, bor_eq, mut_eq, put_eq, fin_eq, lk_eq, un_eq, var_im, var_own, mov_im, mov_own, bor_im, bor_own, bor_bor, bor_chg, mut_own, mut_chg, put_own, put_chg, puts_nil, puts_cons, app_own, app_chg, isl_list, isd_dct, fin_nil, fin_im, fin_bor, fin_own, fin_chg, out_ret, out_nx, ob_nx, ob_ret, ob_brk, ob_cnt, ul_nx, ul_ret, bp_im, bp_own, bp_t, bps_nil, bps_cons, lk_nil, lk_im, lk_bor, lk_own, lk_chg, un_nil, un_own, un_chg, un_im, un_bor, nox_ok, if_true, if_false, Bool.false_eq_true, as_nil, as_e, as_bor, as_chg,
  As.muts, As.bors, Sc.locks, Rdo.locks, Pt.slots, Pt.slotss, wipeS, backS, bAdd, bSub, c_lt, c_le, c_gt, c_ge, c_eq, c_ne, c_eqs, augD, itemsE, itemsS, isN_none, isN_bool, isN_int, isN_str, isN_tuple, isN_list, opt_none, Bool.xor_false, Bool.false_xor, Bool.true_xor, Bool.xor_true,
  List.getElem?_cons_zero, List.getElem?_cons_succ, List.getElem?_nil, List.set_cons_zero, List.set_cons_succ, List.length_cons, List.length_nil, List.map_cons, List.map_nil, Bool.true_and, Bool.and_true, Bool.not_true, Bool.not_false, Bool.and_self, List.all_nil, List.all_cons, List.nodup_nil, List.nodup_cons, List.not_mem_nil, not_false_eq_true, and_true, List.contains_nil, List.contains_eq_mem, decide_true, decide_false, Option.getD_some, Option.getD_none, look_tab hk hmn, e, h3] at h3 ⊢
        have lt := look_tab hk hn
        simp (decide := true) only [evSs, evS, evE, evT, evEs, evAs, evO, evC, evR, evSc, evScN, srcN, slotC, R.ok_bind, R.exc_bind, R.bad_bind, R.ok_out, R.exc_out, R.bad_out, setS, cn_im, cn_own, cn_bor, cn_chg, cn_lst, cn_dct, cn_set, datR_im, datR_lst, tru_none, tru_bool, tru_int, tru_list, tru_tuple, trd_none, trd_bool, trd_int, trd_list, trd_tuple, len_list, len_tuple, len_dct, cv_int, cv_tup1, cv_tup2, cv_lst1, cv_lst2, slD_int, slD_tuple, slD_str, slD_list,
  isi_none, isi_bool, isi_int, isi_str, isi_tuple, isi_list, isTy, arg_im, arg_own, grd_true, get_0, get_s, var_eq, mov_eq, bor_eq, mut_eq, put_eq, fin_eq, lk_eq, un_eq, var_im, var_own, mov_im, mov_own, bor_im, bor_own, bor_bor, bor_chg, mut_own, mut_chg, put_own, put_chg, puts_nil, puts_cons, app_own, app_chg, isl_list, isd_dct, fin_nil, fin_im, fin_bor, fin_own, fin_chg, out_ret, out_nx, ob_nx, ob_ret, ob_brk, ob_cnt, ul_nx, ul_ret, bp_im, bp_own, bp_t, bps_nil, bps_cons, lk_nil, lk_im, lk_bor, lk_own, lk_chg, un_nil, un_own, un_chg, un_im, un_bor, nox_ok, if_true, if_false, Bool.false_eq_true, as_nil, as_e, as_bor, as_chg,
  As.muts, As.bors, Sc.locks, Rdo.locks, Pt.slots, Pt.slotss, wipeS, backS, bAdd, bSub, c_lt, c_le, c_gt, c_ge, c_eq, c_ne, c_eqs, augD, itemsE, itemsS, isN_none, isN_bool, isN_int, isN_str, isN_tuple, isN_list, opt_none, Bool.xor_false, Bool.false_xor, Bool.true_xor, Bool.xor_true,
  List.getElem?_cons_zero, List.getElem?_cons_succ, List.getElem?_nil, List.set_cons_zero, List.set_cons_succ, List.length_cons, List.length_nil, List.map_cons, List.map_nil, Bool.true_and, Bool.and_true, Bool.not_true, Bool.not_false, Bool.and_self, List.all_nil, List.all_cons, List.nodup_nil, List.nodup_cons, List.not_mem_nil, not_false_eq_true, and_true, List.contains_nil, List.contains_eq_mem, decide_true, decide_false, Option.getD_some, Option.getD_none, lt, h3]
      · have hno : n ∉ retD h m := fun q => ret_anti e r1 ((mem_retD hk).mp q)
        simp (decide := true) only [b_law_1, evSs, evS, evE, evT, evEs, evAs, evO, evC, evR, evSc, evScN, srcN, slotC, R.ok_bind, R.exc_bind, R.bad_bind, R.ok_out, R.exc_out, R.bad_out, setS, cn_im, cn_own, cn_bor, cn_chg, cn_lst, cn_dct, cn_set, datR_im, datR_lst, tru_none, tru_bool, tru_int, tru_list, tru_tuple, trd_none, trd_bool, trd_int, trd_list, trd_tuple, len_list, len_tuple, len_dct, cv_int, cv_tup1, cv_tup2, cv_lst1, cv_lst2, slD_int, slD_tuple, slD_str, slD_list,
  isi_none, isi_bool, isi_int, isi_str, isi_tuple, isi_list, isTy, arg_im, arg_own, grd_true, get_0, get_s, var_eq, mov_eq, bor_eq, mut_eq, put_eq, fin_eq, lk_eq, un_eq, var_im, var_own, mov_im, mov_own, bor_im, bor_own, bor_bor, bor_chg, mut_own, mut_chg, put_own, put_chg, puts_nil, puts_cons, app_own, app_chg, isl_list, isd_dct, fin_nil, fin_im, fin_bor, fin_own, fin_chg, out_ret, out_nx, ob_nx, ob_ret, ob_brk, ob_cnt, ul_nx, ul_ret, bp_im, bp_own, bp_t, bps_nil, bps_cons, lk_nil, lk_im, lk_bor, lk_own, lk_chg, un_nil, un_own, un_chg, un_im, un_bor, nox_ok, if_true, if_false, Bool.false_eq_true, as_nil, as_e, as_bor, as_chg,
  As.muts, As.bors, Sc.locks, Rdo.locks, Pt.slots, Pt.slotss, wipeS, backS, bAdd, bSub, c_lt, c_le, c_gt, c_ge, c_eq, c_ne, c_eqs, augD, itemsE, itemsS, isN_none, isN_bool, isN_int, isN_str, isN_tuple, isN_list, opt_none, Bool.xor_false, Bool.false_xor, Bool.true_xor, Bool.xor_true,
  List.getElem?_cons_zero, List.getElem?_cons_succ, List.getElem?_nil, List.set_cons_zero, List.set_cons_succ, List.length_cons, List.length_nil, List.map_cons, List.map_nil, Bool.true_and, Bool.and_true, Bool.not_true, Bool.not_false, Bool.and_self, List.all_nil, List.all_cons, List.nodup_nil, List.nodup_cons, List.not_mem_nil, not_false_eq_true, and_true, List.contains_nil, List.contains_eq_mem, decide_true, decide_false, Option.getD_some, Option.getD_none, look_tab hk hmn, e, mem_ints, hno, h3]) [some s0, some (.own bx), some (.im h.d), some (.bor (.lst (h.nums.map PyData.int))), some (.own (.lst th)), some (.own (.dct (tabD h h.nums))), some (.im (.int n)), x7, x8, x9, x10] ⟨x9, x10, rfl⟩
  subst h2
  refine ⟨x9', x10', ?_⟩
  unfold b_law_4
  simp (decide := true) only [evSs, evS, evE, evT, evEs, evAs, evO, evC, evR, evSc, evScN, srcN, slotC, R.ok_bind, R.exc_bind, R.bad_bind, R.ok_out, R.exc_out, R.bad_out, setS, cn_im, cn_own, cn_bor, cn_chg, cn_lst, cn_dct, cn_set, datR_im, datR_lst, tru_none, tru_bool, tru_int, tru_list, tru_tuple, trd_none, trd_bool, trd_int, trd_list, trd_tuple, len_list, len_tuple, len_dct, cv_int, cv_tup1, cv_tup2, cv_lst1, cv_lst2, slD_int, slD_tuple, slD_str, slD_list,
  isi_none, isi_bool, isi_int, isi_str, isi_tuple, isi_list, isTy, arg_im, arg_own, grd_true, get_0, get_s, var_eq, mov_eq, bor_eq, mut_eq, put_eq, fin_eq, lk_eq, un_eq, var_im, var_own, mov_im, mov_own, bor_im, bor_own, bor_bor, bor_chg, mut_own, mut_chg, put_own, put_chg, puts_nil, puts_cons, app_own, app_chg, isl_list, isd_dct, fin_nil, fin_im, fin_bor, fin_own, fin_chg, out_ret, out_nx, ob_nx, ob_ret, ob_brk, ob_cnt, ul_nx, ul_ret, bp_im, bp_own, bp_t, bps_nil, bps_cons, lk_nil, lk_im, lk_bor, lk_own, lk_chg, un_nil, un_own, un_chg, un_im, un_bor, nox_ok, if_true, if_false, Bool.false_eq_true, as_nil, as_e, as_bor, as_chg,
  As.muts, As.bors, Sc.locks, Rdo.locks, Pt.slots, Pt.slotss, wipeS, backS, bAdd, bSub, c_lt, c_le, c_gt, c_ge, c_eq, c_ne, c_eqs, augD, itemsE, itemsS, isN_none, isN_bool, isN_int, isN_str, isN_tuple, isN_list, opt_none, Bool.xor_false, Bool.false_xor, Bool.true_xor, Bool.xor_true,
  List.getElem?_cons_zero, List.getElem?_cons_succ, List.getElem?_nil, List.set_cons_zero, List.set_cons_succ, List.length_cons, List.length_nil, List.map_cons, List.map_nil, Bool.true_and, Bool.and_true, Bool.not_true, Bool.not_false, Bool.and_self, List.all_nil, List.all_cons, List.nodup_nil, List.nodup_cons, List.not_mem_nil, not_false_eq_true, and_true, List.contains_nil, List.contains_eq_mem, decide_true, decide_false, Option.getD_some, Option.getD_none, l1, lp, List.length_map, q1, l2, look_tab hk hn, h1]
theorem math (ns : List Int) (s : Sl) (hn : ns.length ≤ 63) (hs : IsScript s ns) : ∃ cs, callN (ds.map Df.fd) 200 (9 + 1) 24 [s] = .ok (.im (.bool true), cs) := by
  have key : ∀ ρ, startS db_law.fd [s] = ρ → C (9 + 1) 24 [s] = outCall [s] (evSs (C (1 + 8)) 200 b_law ρ) := fun ρ h => call_unf (k := 9) (d := db_law) rfl rfl ρ h
  refine ⟨[], ?_⟩
  show C (9 + 1) 24 [s] = _
  rw [key [some s, none, none, none, none, none, none, none, none, none, none] rfl]
  obtain ⟨l, bx⟩ := box_ok (k := 6) (a := 0) (b := 63) hs (by omega) (by omega) (by omega)
  obtain ⟨h, a1, q1, hk, q3, q4, q5, q6, hp⟩ := heap_ok (k := 5) (l := l) (a := 0) (most := 9) (by omega) (by omega) (by omega)
  have ln := lnumbers_ok (k := 8) hk
  have r1 := lobtainable_ok (k := 7) hk (intsP_b h.nums)
  obtain ⟨ρ', h1, x6, x7, x8, h2⟩ := loopF_t0 (p := .v 6) (b := evSs (C (1 + 8)) 200 b_law_7) PyData.int (fun ys ρ => ∃ x6 x7 x8, ρ = [some s, some (.own (boxC l a1)), some (.im h.d), some (.bor (.lst (h.nums.map PyData.int))), some (.own (.lst ((h.obt h.nums).map PyData.int))), some (.own (.dct (tabD h ys))), x6, x7, x8, none, none]) h.nums
    (fun ys n zs ρ e ⟨x6, x7, x8, h2⟩ => by
      subst h2
      obtain ⟨x7', x8', h3⟩ := turn1 (k := 2) (s0 := s) (bx := boxC l a1) hk e (x7 := x7) (x8 := x8)
      exact ⟨_, _, bp_im, h3, _, _, _, rfl⟩) [some s, some (.own (boxC l a1)), some (.im h.d), some (.bor (.lst (h.nums.map PyData.int))), some (.own (.lst ((h.obt h.nums).map PyData.int))), some (.own (.dct [])), none, none, none, none, none] ⟨none, none, none, rfl⟩
  subst h2
  obtain ⟨ρ3, h3, y6, y9, y10, h4⟩ := loopF_0 (p := .v 6) (b := evSs (C (1 + 8)) 200 b_law_4) PyData.int (fun ρ => ∃ x6 x9 x10, ρ = [some s, some (.own (boxC l a1)), some (.im h.d), some (.bor (.lst (h.nums.map PyData.int))), some (.own (.lst ((h.obt h.nums).map PyData.int))), some (.own (.dct (tabD h h.nums))), x6, x7, x8, x9, x10]) h.nums
    (fun n hn ρ ⟨x6, x9, x10, h2⟩ => by
      subst h2
      obtain ⟨x9', x10', h3⟩ := turn2 (k := 1) (s0 := s) (bx := boxC l a1) (th := (h.obt h.nums).map PyData.int) hk hn (x7 := x7) (x8 := x8) (x9 := x9) (x10 := x10)
      exact ⟨_, _, bp_im, h3, _, _, _, rfl⟩) [some s, some (.own (boxC l a1)), some (.im h.d), some (.bor (.lst (h.nums.map PyData.int))), some (.own (.lst ((h.obt h.nums).map PyData.int))), some (.own (.dct (tabD h h.nums))), x6, x7, x8, none, none] ⟨x6, none, none, rfl⟩
  subst h4
  have hbor : borF (some (some s)) = .ok s := by rcases hs with rfl | rfl <;> rfl
  have fin : ∀ ρ, finals ρ 0 [s] = .ok [] := by rcases hs with rfl | rfl <;> exact fun ρ => rfl
  unfold b_law
  simp (decide := true) only [boxC] at bx hp h1 h3 ⊢
  simp (decide := true) only [evSs, evS, evE, evT, evEs, evAs, evO, evC, evR, evSc, evScN, srcN, slotC, R.ok_bind, R.exc_bind, R.bad_bind, R.ok_out, R.exc_out, R.bad_out, setS, cn_im, cn_own, cn_bor, cn_chg, cn_lst, cn_dct, cn_set, datR_im, datR_lst, tru_none, tru_bool, tru_int, tru_list, tru_tuple, trd_none, trd_bool, trd_int, trd_list, trd_tuple, len_list, len_tuple, len_dct, cv_int, cv_tup1, cv_tup2, cv_lst1, cv_lst2, slD_int, slD_tuple, slD_str, slD_list,
  isi_none, isi_bool, isi_int, isi_str, isi_tuple, isi_list, isTy, arg_im, arg_own, grd_true, get_0, get_s, var_eq, mov_eq, bor_eq, mut_eq, put_eq, fin_eq, lk_eq, un_eq, var_im, var_own, mov_im, mov_own, bor_im, bor_own, bor_bor, bor_chg, mut_own, mut_chg, put_own, put_chg, puts_nil, puts_cons, app_own, app_chg, isl_list, isd_dct, fin_nil, fin_im, fin_bor, fin_own, fin_chg, out_ret, out_nx, ob_nx, ob_ret, ob_brk, ob_cnt, ul_nx, ul_ret, bp_im, bp_own, bp_t, bps_nil, bps_cons, lk_nil, lk_im, lk_bor, lk_own, lk_chg, un_nil, un_own, un_chg, un_im, un_bor, nox_ok, if_true, if_false, Bool.false_eq_true, as_nil, as_e, as_bor, as_chg,
  As.muts, As.bors, Sc.locks, Rdo.locks, Pt.slots, Pt.slotss, wipeS, backS, bAdd, bSub, c_lt, c_le, c_gt, c_ge, c_eq, c_ne, c_eqs, augD, itemsE, itemsS, isN_none, isN_bool, isN_int, isN_str, isN_tuple, isN_list, opt_none, Bool.xor_false, Bool.false_xor, Bool.true_xor, Bool.xor_true,
  List.getElem?_cons_zero, List.getElem?_cons_succ, List.getElem?_nil, List.set_cons_zero, List.set_cons_succ, List.length_cons, List.length_nil, List.map_cons, List.map_nil, Bool.true_and, Bool.and_true, Bool.not_true, Bool.not_false, Bool.and_self, List.all_nil, List.all_cons, List.nodup_nil, List.nodup_cons, List.not_mem_nil, not_false_eq_true, and_true, List.contains_nil, List.contains_eq_mem, decide_true, decide_false, Option.getD_some, Option.getD_none, hbor, bx, hp, ln, r1, h1, h3, fin]
end K23

set_option Elab.async false
set_option linter.all false
set_option maxRecDepth 100000
set_option maxHeartbeats 0
namespace K23
open PySem PySem.Spec PyProof.Rows L2 Wk
abbrev M : Mx := mkM ds gls free
theorem bnd : ∀ (i : Nat) (d : Df), ds[i]? = some d → d.Bnd
  | 0, d, h => by cases h; exact fun _ _ _ _ _ _ us hl => match us, hl with | [_, _, _, _, _], _ => rfl
  | 1, d, h => by cases h; exact fun _ _ _ _ _ _ us hl => match us, hl with | [_], _ => rfl
  | 2, d, h => by cases h; exact fun _ _ _ _ _ _ us hl => match us, hl with | [_], _ => rfl
  | 3, d, h => by cases h; exact fun _ _ _ _ _ _ us hl => match us, hl with | [_], _ => rfl
  | 4, d, h => by cases h; exact fun _ _ _ _ _ _ us hl => match us, hl with | [_, _, _], _ => rfl
  | 5, d, h => by cases h; exact fun _ _ _ _ _ _ us hl => match us, hl with | [_, _], _ => rfl
  | 6, d, h => by cases h; exact fun _ _ _ _ _ _ us hl => match us, hl with | [_, _], _ => rfl
  | 7, d, h => by cases h; exact fun _ _ _ _ _ _ us hl => match us, hl with | [_], _ => rfl
  | 8, d, h => by cases h; exact fun _ _ _ _ _ _ us hl => match us, hl with | [_, _], _ => rfl
  | 9, d, h => by cases h; exact fun _ _ _ _ _ _ us hl => match us, hl with | [_, _], _ => rfl
  | 10, d, h => by cases h; exact fun _ _ _ _ _ _ us hl => match us, hl with | [_, _], _ => rfl
  | 11, d, h => by cases h; exact fun _ _ _ _ _ _ us hl => match us, hl with | [_, _], _ => rfl
  | 12, d, h => by cases h; exact fun _ _ _ _ _ _ us hl => match us, hl with | [_, _], _ => rfl
  | 13, d, h => by cases h; exact fun _ _ _ _ _ _ us hl => match us, hl with | [_, _, _], _ => rfl
  | 14, d, h => by cases h; exact fun _ _ _ _ _ _ us hl => match us, hl with | [_, _, _], _ => rfl
  | 15, d, h => by cases h; exact fun _ _ _ _ _ _ us hl => match us, hl with | [_, _], _ => rfl
  | 16, d, h => by cases h; exact fun _ _ _ _ _ _ us hl => match us, hl with | [_, _], _ => rfl
  | 17, d, h => by cases h; exact fun _ _ _ _ _ _ us hl => match us, hl with | [_, _, _], _ => rfl
  | 18, d, h => by cases h; exact fun _ _ _ _ _ _ us hl => match us, hl with | [_, _], _ => rfl
  | 19, d, h => by cases h; exact fun _ _ _ _ _ _ us hl => match us, hl with | [_], _ => rfl
  | 20, d, h => by cases h; exact fun _ _ _ _ _ _ us hl => match us, hl with | [_, _, _], _ => rfl
  | 21, d, h => by cases h; exact fun _ _ _ _ _ _ us hl => match us, hl with | [_, _], _ => rfl
  | 22, d, h => by cases h; exact fun _ _ _ _ _ _ us hl => match us, hl with | [_, _], _ => rfl
  | 23, d, h => by cases h; exact fun _ _ _ _ _ _ us hl => match us, hl with | [_, _], _ => rfl
  | 24, d, h => by cases h; exact fun _ _ _ _ _ _ us hl => match us, hl with | [_], _ => rfl
  | n + 25, d, h => by cases h
theorem chkAll : (ds.all fun d => d.chk M) = true := by decide +kernel
theorem chk (i : Nat) (d : Df) (h : ds[i]? = some d) : d.chk M = true := List.all_eq_true.mp chkAll d (List.mem_of_getElem? h)
abbrev fa : List He.Fa := faOf ds gls free
abbrev fn : List He.DefD := fnD ds
abbrev tf : List He.Defn := tfD ds
abbrev R : PySem.W.OpenRow := PySem.W.OpenLaw.row PySem.Challenge.rw_weakcourt_k23_what_objects_retain
abbrev hk : PySem.W.Hook := He.hookX 4 fa fn [] tf yes
def ob (s : PySem.W.SharedT) : He.AlX := He.obsX 4 fa fn [] tf yes (HandSHeadRun.getT s)
theorem ob_eq (s : PySem.W.SharedT) : ob s = hk.obs s.abs := He.obsX_eq (HandSHeadRun.getT_eq s)
def loose : List Str := ["REGISTERS", "OBJECTS", "make_heap", "numbers_of", "by_number", "held_in", "led_to", "rounds", "obtainable", "reachable", "without", "left_out", "retained", "dominators", "_law_cell", "_law_digits", "_law_box", "_law_draw", "_law_number", "_law_object", "_law_heap", "_law_numbers", "_law_follows", "_law_obtainable", "_law_same", "_law_left_out"]
theorem run (w : World) : HandSHeadRun.RunEq R (PySem.W.view R.prog [31]) hk ob 4000 loose w := by
  intro os
  kernel_rfl
def lawD : Df := db_law
-- law: index 24 at 31 param ['_law_script']
end K23

open PySem PySem.W PySem.Calls PyProof.Rows
theorem PySem.Challenge.cw_weakcourt_k23_what_objects_retain_holds : PySem.Challenge.rw_weakcourt_k23_what_objects_retain.Holds := by
  w_on; o_law
  refine HandSHeadRun.head_any (r := OpenLaw.row PySem.Challenge.rw_weakcourt_k23_what_objects_retain) (q := view (OpenLaw.row PySem.Challenge.rw_weakcourt_k23_what_objects_retain).prog [31]) (H := K23.hk) (ob := K23.ob) (M := 4000) (loose := K23.loose) (d := HandSHeadRun.topDef (OpenLaw.row PySem.Challenge.rw_weakcourt_k23_what_objects_retain).prog 31) (kwd := []) K23.ob_eq
    (by kernel_rfl) (fun s => by kernel_rfl) K23.run (by kernel_rfl) (by kernel_rfl) (by kernel_rfl) (by rfl) (by first | assumption | decide +kernel) (by decide +kernel) ⟨rfl, rfl, rfl, rfl, rfl, by decide +kernel⟩ ?hw ?hc
  case hw => w_witness2
  case hc =>
    refine LamX.walk_ofTsE (l := PySem.Challenge.rw_weakcourt_k23_what_objects_retain) (n := 63) (k := 8 * 9 + 16) (x := "_law_script") (CX := fun w => L2.CX (PySem.Challenge.rw_weakcourt_k23_what_objects_retain).prog w) rfl (by decide) (by kernel_rfl) ⟨rfl, by decide, by decide⟩ ?F (fun w H s e s' h => ?_)
    · intro w mg fa h Y G hmg0
      obtain ⟨K, KX, c⟩ := Y
      have hmg : mg ("law" : PySem.Str) = some (.ref fa) := by
        have e : (HandSHeadRun.topDef (OpenLaw.row PySem.Challenge.rw_weakcourt_k23_what_objects_retain).prog 31).name = ("law" : PySem.Str) := by kernel_rfl
        rw [← e]
        exact hmg0
      exact ⟨K, KX, Wk.lawAtS_of (ds := K23.ds) (gls := K23.gls) (free := K23.free) (i := 24) (d := K23.lawD) KX G c K23.bnd (by decide +kernel) (by decide) K23.chk rfl rfl hmg 200 K23.math⟩
    · obtain ⟨_, _, _, _, _, _, _, _, _, _, _, q⟩ := h
      exact q.2


