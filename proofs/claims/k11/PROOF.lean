import PyProof.Rows.All
import HandS.ForMost
import HandS.ForExc
import HandS.TupAny
import HandS.TupMul
import HandS.TupLe
import HandS.Conv
import HandS.IsInst
import HandS.Deep
import HandS.SortInts
import HandS.Zip
import HandS.SetFor
import HandS.Flow
import HandS.Style
import KE.KDictKeyed
import KE.KeyNested
import KE.SortData
import KE.SortKeyHeap
import HandS.Lambda
import HandS.Keys
import HandS.WordsExc
import HandS.Strs
import KE.KDictPairs
import HandS.Iter
import HandS.Dict
import KE.DataMinMax
import KE.DataFind
import KE.KDictCopyH
import KE.KDictSum
import KE.GoesEnum
import KE.GoesMore
import PyProof.EnumMake
import PyProof.EnumFor
import PyProof.TupleOfSeq
import HandS.Small
import HandS.Ends
import HandS.HeadHook4
import HandS.HeadWalk
import HandS.Head0
import HandS.Head1
import HandS.Head2
import PySem.Challenge.RW_drawmakers_k11_whole_rounds
set_option Elab.async false
set_option linter.all false
set_option maxRecDepth 100000
section
/-! Iv1: a small language for the programs' text (E expressions, S statements) and its plain evaluator over PyData. -/
namespace Iv
open PySem

/-! ### answers -/
inductive R (α : Type) where
  | ok (a : α) | exc (c : Nat) | bad
namespace R
def bind {α β : Type} : R α → (α → R β) → R β
  | .ok a, f => f a
  | .exc c, _ => .exc c
  | .bad, _ => .bad
/-- where nothing may be raised -/
def nox {α : Type} : R α → R α
  | .exc _ => .bad
  | r => r
@[simp] theorem bind_ok {α β : Type} (a : α) (f : α → R β) : (R.ok a).bind f = f a := Eq.trans rfl rfl
@[simp] theorem bind_exc {α β : Type} (c : Nat) (f : α → R β) : (R.exc c).bind f = .exc c := Eq.trans rfl rfl
@[simp] theorem bind_bad {α β : Type} (f : α → R β) : (R.bad : R α).bind f = .bad := Eq.trans rfl rfl
@[simp] theorem nox_ok {α : Type} (a : α) : (R.ok a).nox = .ok a := Eq.trans rfl rfl
end R

/-! ### what a name holds -/
inductive Slot where
  | nul | val (d : PyData) | own (d : PyData)
abbrev Env := List Slot
def Slot.noOwn : Slot → Bool
  | .own _ => false
  | _ => true

inductive Bop where
  | add | sub | mul | div | mod
  deriving DecidableEq
inductive Cop where
  | eq | ne | lt | le | gt | ge | is | nis | isin | nin
  deriving DecidableEq
inductive Bi where
  | len | abs | min | max | sum | all | any | sorted | tuple | list | int | str | dict
  deriving DecidableEq
inductive Ty where
  | int | bool | tuple | str
  deriving DecidableEq
inductive Me where
  | index | count | get | items
  deriving DecidableEq

mutual
/-- a target -/
inductive T where
  | nm (i : Nat) | tup (ts : Ts)
inductive Ts where
  | nil | cons (t : T) (ts : Ts)
end

mutual
inductive E where
  | c (d : PyData)
  | v (i : Nat)
  | g (x : Str) (d : PyData)
  | bin (op : Bop) (a b : E)
  | neg (a : E)
  | cmp (op : Cop) (a b : E)
  | chain (o1 o2 : Cop) (a b c : E)
  | and (a b : E)
  | or (a b : E)
  | not (a : E)
  | ix (a b : E)
  | sl (a : E) (lo hi : Oe)
  | rev (a : E)
  | tup (es : Es)
  | lst (es : Es)
  | dnew (tk : Bool)
  | d1 (k v : E)
  | comp (t : T) (s : Src) (c : Oe) (e : E) (vs : List Nat)
  | call (x : Str) (es : Es)
  | bi (b : Bi) (es : Es)
  | rng (tp : Bool) (a : E)
  | srtSet (a : E)
  | lenSet (a : E)
  /-- _law_told(lambda: a) -/
  | told (a : E)
  /-- sorted(a.items()) -/
  | srtItems (a : E)
  | meth (m : Me) (o : E) (es : Es)
  | isi (a : E) (t : Ty)
  /-- sorted(range(a), key=lambda i: b) -/
  | srtKey (a : E) (i : Nat) (b : E)
inductive Es where
  | nil | cons (e : E) (es : Es)
inductive Oe where
  | no | so (e : E)
/-- what is walked -/
inductive Src where
  | e (a : E) | own (i : Nat) | r1 (a : E) | r2 (a b : E) | r3 (a b c : E) | enum (a : E) | zip (a b : E)
end

inductive S where
  | pass
  | seq (a b : S)
  | frz (i : Nat) (s : S)
  | set (i : Nat) (e : E)
  | setO (i : Nat) (e : E)
  | unp (t : T) (e : E)
  | par (i j : Nat) (a b : E)
  | par3 (i j l : Nat) (a b c : E)
  /-- xs[a], xs[b] = xs[b], xs[a] -/
  | swp (i : Nat) (a b : E)
  /-- like ones together: for x in range(n): same = [g for g in found if t]; if len(same) > 0: same[0].append(x); else: found.append([x]) -/
  | grp (fi xi si gi : Nat) (n t : E)
  /-- never come to -/
  | nev
  | setIx (i : Nat) (k e : E)
  | app (i : Nat) (e : E)
  | ext (i : Nat) (e : E)
  | pop0 (t : T) (i : Nat)
  | iff (c : E) (a b : S)
  | whl (c : E) (b : S)
  | for_ (t : T) (s : Src) (b : S)
  | ret (e : E)
  | retN
  | rai (c : Nat)
  | exp (e : E)
  | cont

/-! ### plain operations -/
@[irreducible] def LIM : Nat := 1000000
theorem LIM_eq : LIM = 1000000 := by unfold LIM; rfl
@[irreducible] def DLIM : Nat := 8000000
theorem DLIM_eq : DLIM = 8000000 := by unfold DLIM; rfl

def mulOk (i j : Int) : Bool := decide ((-(2 ^ 64) < i ∧ i < 2 ^ 64) ∨ (-(2 ^ 64) < j ∧ j < 2 ^ 64))
def pbin : Bop → PyData → PyData → R PyData
  | .add, .int i, .int j => .ok (.int (i + j))
  | .add, .str x, .str y => if x.length + y.length ≤ LIM then .ok (.str (x ++ y)) else .bad
  | .add, .tuple xs, .tuple ys => if xs.length + ys.length ≤ LIM then .ok (.tuple (xs ++ ys)) else .bad
  | .add, .list xs, .list ys => if xs.length + ys.length ≤ LIM then .ok (.list (xs ++ ys)) else .bad
  | .sub, .int i, .int j => .ok (.int (i - j))
  | .mul, .int i, .int j => if mulOk i j = true then .ok (.int (i * j)) else .bad
  | .mul, .tuple xs, .int k => if xs ≠ [] ∧ 2 ≤ k ∧ k ≤ 1000 ∧ xs.length ≤ 1000 then .ok (.tuple (List.replicate k.toNat xs).flatten) else .bad
  | .mul, .list xs, .int k => if -(1000 : Int) ≤ k ∧ k ≤ 1000 ∧ xs.length ≤ 1000 then .ok (.list (List.replicate k.toNat xs).flatten) else .bad
  | .div, .int i, .int j => if j ≠ 0 ∧ j.natAbs < 1073741824 then .ok (.int (i.fdiv j)) else .bad
  | .mod, .int i, .int j => if j ≠ 0 then .ok (.int (i.fmod j)) else .bad
  | _, _, _ => .bad

/-! keys of dicts -/
mutual
def toKey : PyData → Option NestedKey
  | .int i => some (.num i)
  | .str x => some (.text x)
  | .tuple xs => (toKeys xs).map .tup
  | _ => none
def toKeys : List PyData → Option (List NestedKey)
  | [] => some []
  | x :: xs => (toKey x).bind fun k => (toKeys xs).map fun ks => k :: ks
end
def isTup : PyData → Bool
  | .tuple _ => true
  | _ => false
def isFlat : PyData → Bool
  | .int _ => true
  | .str _ => true
  | _ => false
def dictT (kvs : List (PyData × PyData)) : PyData := .dict ((.none, .none) :: kvs)
def dictK (kvs : List (PyData × PyData)) : PyData := .dict ((.none, .bool true) :: kvs)
/-- a key that a dict of that kind may have -/
def keyOk (tk : Bool) (k : PyData) : Bool := if tk then isTup k && (match toKey k with | some n => decide (n.depth ≤ 8) | none => false) else isFlat k
def sameKey (a b : PyData) : Bool := match toKey a, toKey b with
  | some x, some y => decide (x = y)
  | _, _ => false
def dget (k : PyData) : List (PyData × PyData) → Option PyData
  | [] => none
  | (a, v) :: r => if sameKey a k then some v else dget k r
def dput (k v : PyData) : List (PyData × PyData) → List (PyData × PyData)
  | [] => [(k, v)]
  | (a, u) :: r => if sameKey a k then (a, v) :: r else (a, u) :: dput k v r

def inData (x : PyData) : List PyData → Bool
  | [] => false
  | y :: r => PyData.eqv y x || inData x r
def pin : PyData → PyData → R Bool
  | x, .list ds => if SeqAt.shaped x && SeqAt.shaped (.list ds) then .ok (inData x ds) else .bad
  | x, .tuple ds => if SeqAt.shaped x && SeqAt.shaped (.tuple ds) then .ok (inData x ds) else .bad
  | x, .dict ((.none, .none) :: kvs) => if keyOk true x then .ok (dget x kvs).isSome else .bad
  | _, _ => .bad
def pis : PyData → PyData → R Bool
  | .none, .none => .ok true
  | .bool _, .none => .ok false
  | .int _, .none => .ok false
  | .str _, .none => .ok false
  | .list _, .none => .ok false
  | .tuple _, .none => .ok false
  | .dict _, .none => .ok false
  | .bool a, .bool b => .ok (a == b)
  | _, _ => .bad
def pcmp : Cop → PyData → PyData → R Bool
  | .eq, a, b => if SeqAt.shaped a && SeqAt.shaped b then .ok (PyData.eqv a b) else .bad
  | .ne, a, b => if SeqAt.shaped a && SeqAt.shaped b then .ok (!PyData.eqv a b) else .bad
  | .lt, .int i, .int j => .ok (decide (i < j))
  | .le, .int i, .int j => .ok (decide (i ≤ j))
  | .gt, .int i, .int j => .ok (decide (j < i))
  | .ge, .int i, .int j => .ok (decide (j ≤ i))
  | .is, a, b => pis a b
  | .nis, a, b => (pis a b).bind fun k => .ok (!k)
  | .isin, a, b => pin a b
  | .nin, a, b => (pin a b).bind fun k => .ok (!k)
  | _, _, _ => .bad

def pix : PyData → PyData → R PyData
  | .list xs, .int i => match L2.atI xs i with | some v => .ok v | none => .bad
  | .tuple xs, .int i => match L2.atI xs i with | some v => .ok v | none => .bad
  | .str z, .int i => if z.length ≤ LIM then (match L2.atI z.cps.toList i with | some c => .ok (.str ⟨#[c]⟩) | none => .bad) else .bad
  | .dict ((.none, .bool false) :: kvs), .int i => match L2.atI kvs i with | some v => .ok v.1 | none => .bad
  | .dict ((.none, .none) :: kvs), k => if keyOk true k then (match dget k kvs with | some v => .ok v | none => .bad) else .bad
  | .dict ((.none, .bool true) :: kvs), k => if keyOk false k then (match dget k kvs with | some v => .ok v | none => .bad) else .bad
  | _, _ => .bad

def cutL {α : Type} (xs : List α) (lo hi : Option Int) : List α :=
  (xs.drop (HT.sIx xs.length 0 lo)).take (HT.sIx xs.length xs.length hi - HT.sIx xs.length 0 lo)
def psl : PyData → Option Int → Option Int → R PyData
  | .list xs, lo, hi => .ok (.list (cutL xs lo hi))
  | .tuple xs, lo, hi => .ok (.tuple (cutL xs lo hi))
  | _, _, _ => .bad

def intsOf : List PyData → Option (List Int)
  | [] => some []
  | .int i :: r => (intsOf r).map fun l => i :: l
  | _ :: _ => none
def boolsOf : List PyData → Option (List Bool)
  | [] => some []
  | .bool i :: r => (boolsOf r).map fun l => i :: l
  | _ :: _ => none
def maxOf : Int → List Int → Int
  | m, [] => m
  | m, x :: r => maxOf (if m < x then x else m) r
def minOf : Int → List Int → Int
  | m, [] => m
  | m, x :: r => minOf (if x < m then x else m) r

/-- may these be sorted -/
def sortOk (ds : List PyData) : Bool :=
  (ds.all fun d => ds.all fun d' => W.alike d d') &&
  ((ds.all fun d => match d with | .tuple (_ :: _) => true | _ => false) || (ds.all fun d => match d with | .int _ => true | .str _ => true | .list _ => true | _ => false)) &&
  (ds.all fun d => decide (d.depth ≤ 64)) && decide (ds.length ≤ LIM)
def srt (ds : List PyData) : List PyData := ds.mergeSort (W.dataLe false id)

def pairsOf : List PyData → Option (List (PyData × PyData))
  | [] => some []
  | .tuple [k, v] :: r => (pairsOf r).map fun l => (k, v) :: l
  | _ :: _ => none
def dputs : List (PyData × PyData) → List (PyData × PyData) → List (PyData × PyData)
  | acc, [] => acc
  | acc, (k, v) :: r => dputs (dput k v acc) r

/-- dict(pairs) -/
def pdict (ds : List PyData) : R PyData := match pairsOf ds with
  | some ps => if ps.all (fun p => keyOk true p.1) then .ok (dictT (dputs [] ps)) else if ps.all (fun p => keyOk false p.1) then .ok (dictK (dputs [] ps)) else .bad
  | none => .bad
def pbi : Bi → List PyData → R PyData
  | .len, [.list xs] => .ok (.int xs.length)
  | .len, [.tuple xs] => .ok (.int xs.length)
  | .len, [.dict ((.none, .bool false) :: kvs)] => .ok (.int kvs.length)
  | .len, [.str z] => if z.length ≤ LIM then .ok (.int z.length) else .bad
  | .abs, [.int i] => .ok (.int (if i < 0 then -i else i))
  | .min, [.int i, .int j] => .ok (.int (if j < i then j else i))
  | .max, [.int i, .int j] => .ok (.int (if j > i then j else i))
  | .min, [.list xs] => match intsOf xs with | some (x :: r) => .ok (.int (minOf x r)) | _ => .bad
  | .min, [.tuple xs] => match intsOf xs with | some (x :: r) => .ok (.int (minOf x r)) | _ => .bad
  | .max, [.list xs] => match intsOf xs with | some (x :: r) => .ok (.int (maxOf x r)) | _ => .bad
  | .sum, [.list xs] => match intsOf xs with | some ns => .ok (.int ns.sum) | _ => .bad
  | .all, [.list xs] => match boolsOf xs with | some bs => .ok (.bool (bs.all id)) | _ => .bad
  | .any, [.list xs] => match boolsOf xs with | some bs => .ok (.bool (bs.any id)) | _ => .bad
  | .sorted, [.list xs] => if sortOk xs then .ok (.list (srt xs)) else .bad
  | .sorted, [.tuple xs] => if sortOk xs then .ok (.list (srt xs)) else .bad
  | .sorted, [.dict ((.none, .none) :: kvs)] => if sortOk (kvs.map (·.1)) then .ok (.list (srt (kvs.map (·.1)))) else .bad
  | .tuple, [.list xs] => .ok (.tuple xs)
  | .tuple, [.tuple xs] => .ok (.tuple xs)
  | .list, [.list xs] => .ok (.list xs)
  | .list, [.tuple xs] => .ok (.list xs)
  | .int, [.int i] => .ok (.int i)
  | .int, [.bool b] => .ok (.int (if b then 1 else 0))
  | .str, [.int i] => if i.natAbs < 2 ^ 64 then .ok (.str (toString i)) else .bad
  | .dict, [.list xs] => pdict xs
  | _, _ => .bad

theorem pdict_no (ds : List PyData) (c : Nat) : pdict ds ≠ .exc c := by
  intro h
  unfold pdict at h
  split at h
  · split at h
    · cases h
    · split at h <;> cases h
  · cases h
theorem pbi_no (b : Bi) (ds : List PyData) (c : Nat) : pbi b ds ≠ .exc c := by
  intro h
  unfold pbi at h
  split at h <;> first | (cases h; done) | (exact pdict_no _ _ h) | (split at h <;> cases h)
def rangeL (lo : Int) (n : Nat) : List PyData := (List.range n).map fun i => .int (lo + (i : Nat))
def rangeC (lo c : Int) (n : Nat) : List PyData := (List.range n).map fun i => .int (lo + (i : Nat) * c)
/-- put in, each once, rising -/
def insS (x : Int) : List Int → List Int
  | [] => [x]
  | y :: r => if x < y then x :: y :: r else if x = y then y :: r else y :: insS x r
/-- a list's ints, each once, rising -/
def sortSet (ns : List Int) : List Int := ns.foldr insS []
theorem mem_insS {x k : Int} : ∀ {l : List Int}, k ∈ insS x l ↔ k = x ∨ k ∈ l
  | [] => by simp [insS]
  | y :: r => by
    unfold insS
    split
    · simp
    · split
      · rename_i e; subst e; simp
      · rw [List.mem_cons, mem_insS (l := r), List.mem_cons]
        constructor
        · rintro (h | h | h)
          · exact .inr (.inl h)
          · exact .inl h
          · exact .inr (.inr h)
        · rintro (h | h | h)
          · exact .inr (.inl h)
          · exact .inl h
          · exact .inr (.inr h)
theorem insS_inc {x : Int} : ∀ {l : List Int}, l.Pairwise (· < ·) → (insS x l).Pairwise (· < ·)
  | [], _ => List.pairwise_singleton _ _
  | y :: r, h => by
    rw [List.pairwise_cons] at h
    unfold insS
    split
    · rename_i hx
      rw [List.pairwise_cons, List.pairwise_cons]
      refine ⟨fun z hz => ?_, h⟩
      rcases List.mem_cons.mp hz with rfl | hz
      · exact hx
      · have := h.1 z hz; omega
    · split
      · rw [List.pairwise_cons]; exact h
      · rename_i h1 h2
        rw [List.pairwise_cons]
        refine ⟨fun z hz => ?_, insS_inc h.2⟩
        rcases mem_insS.mp hz with rfl | hz
        · omega
        · exact h.1 z hz
theorem mem_sortSet {k : Int} : ∀ {l : List Int}, k ∈ sortSet l ↔ k ∈ l
  | [] => Iff.rfl
  | y :: r => by
    show k ∈ insS y (sortSet r) ↔ _
    rw [mem_insS, mem_sortSet (l := r), List.mem_cons]
theorem sortSet_inc : ∀ l : List Int, (sortSet l).Pairwise (· < ·)
  | [] => List.Pairwise.nil
  | y :: r => insS_inc (sortSet_inc r)
theorem inc_unique : ∀ {l l' : List Int}, l.Pairwise (· < ·) → l'.Pairwise (· < ·) → (∀ k, k ∈ l ↔ k ∈ l') → l = l'
  | [], [], _, _, _ => rfl
  | [], b :: _, _, _, h => by have := (h b).mpr (.head _); cases this
  | a :: _, [], _, _, h => by have := (h a).mp (.head _); cases this
  | a :: l, b :: l', h1, h2, h => by
    rw [List.pairwise_cons] at h1 h2
    have e : a = b := by
      rcases List.mem_cons.mp ((h a).mp (.head _)) with e | e
      · exact e
      · rcases List.mem_cons.mp ((h b).mpr (.head _)) with e' | e'
        · exact e'.symm
        · have x := h2.1 a e
          have y := h1.1 b e'
          omega
    subst e
    congr 1
    refine inc_unique h1.2 h2.2 fun k => ⟨fun hk => ?_, fun hk => ?_⟩
    · rcases List.mem_cons.mp ((h k).mp (.tail _ hk)) with e | e
      · have := h1.1 k hk; omega
      · exact e
    · rcases List.mem_cons.mp ((h k).mpr (.tail _ hk)) with e | e
      · have := h2.1 k hk; omega
      · exact e

def indexOf (x : PyData) : Nat → List PyData → Option Nat
  | _, [] => none
  | n, y :: r => if PyData.eqv y x then some n else indexOf x (n + 1) r

def countOf (x : PyData) : List PyData → Nat
  | [] => 0
  | y :: r => (if PyData.eqv y x then 1 else 0) + countOf x r
def pmeth : Me → PyData → List PyData → R PyData
  | .index, .list ds, [x] => if SeqAt.shaped x && SeqAt.shaped (.list ds) then (match indexOf x 0 ds with | some j => .ok (.int (j : Nat)) | none => .bad) else .bad
  | .count, .list ds, [x] => if SeqAt.shaped x && SeqAt.shaped (.list ds) then .ok (.int (countOf x ds)) else .bad
  | .get, .dict ((.none, .none) :: kvs), [k, z] => if keyOk true k then .ok ((dget k kvs).getD z) else .bad
  | .get, .dict ((.none, .bool true) :: kvs), [k, z] => if keyOk false k then .ok ((dget k kvs).getD z) else .bad
  | _, _, _ => .bad

/-- may the method be asked of it -/
def meOk : Me → PyData → Bool
  | .index, .list _ => true
  | .count, .list _ => true
  | .get, .dict ((.none, .none) :: _) => true
  | .get, .dict ((.none, .bool true) :: _) => true
  | _, _ => false

def pisi : PyData → Ty → R Bool
  | .none, _ => .ok false
  | .bool _, .bool => .ok true
  | .bool _, .int => .ok true
  | .bool _, _ => .ok false
  | .int _, .int => .ok true
  | .int _, _ => .ok false
  | .str _, .str => .ok true
  | .str _, _ => .ok false
  | .list _, _ => .ok false
  | .tuple _, .tuple => .ok true
  | .tuple _, _ => .ok false
  | .dict _, _ => .bad

/-! ### targets -/
mutual
def bindT : T → PyData → Env → Option Env
  | .nm i, d, ρ => some (ρ.set i (.val d))
  | .tup ts, .tuple ds, ρ => bindTs ts ds ρ
  | .tup _, _, _ => none
def bindTs : Ts → List PyData → Env → Option Env
  | .nil, [], ρ => some ρ
  | .cons t ts, d :: ds, ρ => (bindT t d ρ).bind fun ρ1 => bindTs ts ds ρ1
  | _, _, _ => none
end
def wipeE (ρ : Env) : List Nat → Env
  | [] => ρ
  | v :: vs => (wipeE ρ vs).set v .nul

/-! ### expressions -/
def rdS (m : Bool) : Option Slot → R PyData
  | some (.val d) => .ok d
  | some (.own d) => if m then .ok d else .bad
  | _ => .bad
def asB (d : PyData) : R Bool := match d with
  | .bool b => .ok b
  | _ => .bad
def ocons (o : Option PyData) (ys : List PyData) : List PyData := match o with
  | some y => y :: ys
  | none => ys
def compL (b : PyData → R (Option PyData)) : List PyData → R (List PyData)
  | [] => .ok []
  | x :: xs => (b x).bind fun o => (compL b xs).bind fun ys => .ok (ocons o ys)

def keyN (r : R PyData) : Option Int := match r with
  | .ok (.int z) => some z
  | _ => none
def srtBy (n : Nat) (key : Nat → Int) : List PyData := ((List.range n).mergeSort (W.dataLe false fun j => .int (key j))).map fun j => .int (j : Nat)
mutual
def ev (F : Str → List PyData → R PyData) : Bool → E → Env → R PyData
  | _, .c d, _ => .ok d
  | m, .v i, ρ => rdS m ρ[i]?
  | _, .g _ d, _ => .ok d
  | _, .bin op a b, ρ => (ev F true a ρ).bind fun x => (ev F true b ρ).bind fun y => pbin op x y
  | _, .neg a, ρ => (ev F true a ρ).bind fun x => match x with | .int i => .ok (.int (-i)) | _ => .bad
  | _, .cmp op a b, ρ => (ev F true a ρ).bind fun x => (ev F true b ρ).bind fun y => (pcmp op x y).bind fun k => .ok (.bool k)
  | _, .chain o1 o2 a b c, ρ => (ev F true a ρ).bind fun x => (ev F true b ρ).bind fun y => (pcmp o1 x y).bind fun k =>
      if k then (ev F true c ρ).bind fun z => (pcmp o2 y z).bind fun k2 => .ok (.bool k2) else .ok (.bool false)
  | _, .and a b, ρ => (ev F false a ρ).bind fun x => (asB x).bind fun k => if k then (ev F false b ρ).bind fun y => (asB y).bind fun k2 => .ok (.bool k2) else .ok (.bool false)
  | _, .or a b, ρ => (ev F false a ρ).bind fun x => (asB x).bind fun k => if k then .ok (.bool true) else (ev F false b ρ).bind fun y => (asB y).bind fun k2 => .ok (.bool k2)
  | _, .not a, ρ => (ev F false a ρ).bind fun x => (asB x).bind fun k => .ok (.bool (!k))
  | _, .ix a b, ρ => (ev F true a ρ).bind fun x => (ev F true b ρ).bind fun y => pix x y
  | _, .sl a lo hi, ρ => (ev F true a ρ).bind fun x => (evo F lo ρ).bind fun l => (evo F hi ρ).bind fun h => psl x l h
  | _, .rev a, ρ => (ev F true a ρ).bind fun x => match x with | .tuple xs => .ok (.tuple xs.reverse) | .list xs => .ok (.list xs.reverse) | _ => .bad
  | _, .tup es, ρ => (evs F es ρ).bind fun xs => .ok (.tuple xs)
  | _, .lst es, ρ => (evs F es ρ).bind fun xs => .ok (.list xs)
  | _, .dnew tk, _ => .ok (if tk then dictT [] else dictK [])
  | _, .d1 k v, ρ => (ev F false k ρ).bind fun kd => (ev F false v ρ).bind fun vd => if keyOk true kd then .ok (dictT [(kd, vd)]) else .bad
  | _, .comp t s c e vs, ρ => ((esrc F s ρ).bind fun xs => if xs.length < LIM then (compL (fun x => match bindT t x (wipeE ρ vs) with
      | none => .bad
      | some ρ1 => (evc F c ρ1).bind fun k => if k then (ev F false e ρ1).bind fun y => .ok (some y) else .ok none) xs).bind fun ys => .ok (.list ys) else .bad).nox
  | _, .call x es, ρ => (evs F es ρ).bind fun xs => F x xs
  | _, .bi b es, ρ => (evr F es ρ).bind fun xs => pbi b xs
  | _, .rng tp a, ρ => (ev F true a ρ).bind fun x => match x with
      | .int n => if n < (LIM : Nat) ∧ -(LIM : Int) < n then .ok (if tp then .tuple (rangeL 0 n.toNat) else .list (rangeL 0 n.toNat)) else .bad
      | _ => .bad
  | _, .srtSet a, ρ => (ev F true a ρ).bind fun x => match x with
      | .list ds => (match intsOf ds with | some ns => if ns.length ≤ 4000 then .ok (.list ((sortSet ns).map .int)) else .bad | none => .bad)
      | .tuple ds => (match intsOf ds with | some ns => if ns.length ≤ 4000 then .ok (.list ((sortSet ns).map .int)) else .bad | none => .bad)
      | _ => .bad
  | _, .lenSet a, ρ => (ev F true a ρ).bind fun x => match x with
      | .list ds => (match intsOf ds with | some ns => if ns.length ≤ 4000 then .ok (.int (sortSet ns).length) else .bad | none => .bad)
      | _ => .bad
  | _, .told a, ρ => match ev F false a ρ with
      | .ok d => .ok (.tuple [.str "told", d])
      | .exc c => .ok (.tuple [.str "refused", .int (c : Nat)])
      | .bad => .bad
  | _, .srtItems a, ρ => (ev F true a ρ).bind fun x => match x with
      | .dict ((.none, .none) :: kvs) => if sortOk (kvs.map fun p => .tuple [p.1, p.2]) then .ok (.list (srt (kvs.map fun p => .tuple [p.1, p.2]))) else .bad
      | _ => .bad
  | _, .meth m o es, ρ => (ev F true o ρ).bind fun x => if meOk m x then (evs F es ρ).bind fun xs => pmeth m x xs else .bad
  | _, .isi a t, ρ => (ev F true a ρ).bind fun x => (pisi x t).bind fun k => .ok (.bool k)
  | _, .srtKey a i b, ρ => (ev F true a ρ).bind fun x => match x with
      | .int n => if 0 ≤ n ∧ n < (LIM : Nat) ∧ (List.range n.toNat).all (fun j => (keyN (ev F false b (ρ.set i (.val (.int (j : Nat)))))).isSome) = true then
          .ok (.list (srtBy n.toNat fun j => (keyN (ev F false b (ρ.set i (.val (.int (j : Nat)))))).getD 0)) else .bad
      | _ => .bad
/-- values that are handed on -/
def evs (F : Str → List PyData → R PyData) : Es → Env → R (List PyData)
  | .nil, _ => .ok []
  | .cons e es, ρ => (ev F false e ρ).bind fun x => (evs F es ρ).bind fun xs => .ok (x :: xs)
/-- values that are read alone -/
def evr (F : Str → List PyData → R PyData) : Es → Env → R (List PyData)
  | .nil, _ => .ok []
  | .cons e es, ρ => (ev F true e ρ).bind fun x => (evr F es ρ).bind fun xs => .ok (x :: xs)
/-- a slice's part -/
def evo (F : Str → List PyData → R PyData) : Oe → Env → R (Option Int)
  | .no, _ => .ok none
  | .so e, ρ => (ev F true e ρ).bind fun x => match x with | .int i => .ok (some i) | _ => .bad
/-- a comprehension's test -/
def evc (F : Str → List PyData → R PyData) : Oe → Env → R Bool
  | .no, _ => .ok true
  | .so e, ρ => (ev F false e ρ).bind fun x => asB x
def esrc (F : Str → List PyData → R PyData) : Src → Env → R (List PyData)
  | .e a, ρ => (ev F false a ρ).bind fun x => match x with | .list ds => .ok ds | .tuple ds => .ok ds | _ => .bad
  | .own i, ρ => (rdS true ρ[i]?).bind fun x => match x with | .list ds => .ok ds | _ => .bad
  | .r1 a, ρ => (ev F true a ρ).bind fun x => match x with | .int n => if n < (LIM : Nat) ∧ -(LIM : Int) < n then .ok (rangeL 0 n.toNat) else .bad | _ => .bad
  | .r2 a b, ρ => (ev F true a ρ).bind fun x => (ev F true b ρ).bind fun y => match x, y with
      | .int i, .int j => if i < (LIM : Nat) ∧ -(LIM : Int) < i ∧ j < (LIM : Nat) ∧ -(LIM : Int) < j then .ok (rangeL i (j - i).toNat) else .bad
      | _, _ => .bad
  | .r3 a b c, ρ => (ev F true a ρ).bind fun x => (ev F true b ρ).bind fun y => (ev F true c ρ).bind fun z => match x, y, z with
      | .int i, .int j, .int (-1) => if i < (LIM : Nat) ∧ -(LIM : Int) < i ∧ j < (LIM : Nat) ∧ -(LIM : Int) < j then .ok (rangeC i (-1) (i - j).toNat) else .bad
      | _, _, _ => .bad
  | .enum a, ρ => (ev F false a ρ).bind fun x => match x with
      | .list ds => .ok ((List.range ds.length).zipWith (fun i d => .tuple [.int (i : Nat), d]) ds)
      | .tuple ds => .ok ((List.range ds.length).zipWith (fun i d => .tuple [.int (i : Nat), d]) ds)
      | _ => .bad
  | .zip a b, ρ => (ev F false a ρ).bind fun x => (ev F false b ρ).bind fun y => match x, y with
      | .list xs, .list ys => .ok (xs.zipWith (fun p q => .tuple [p, q]) ys)
      | .tuple xs, .tuple ys => .ok (xs.zipWith (fun p q => .tuple [p, q]) ys)
      | _, _ => .bad
end

/-! ### statements -/
inductive Fl where
  | nx (ρ : Env) | rt (d : PyData) | bk (ρ : Env) | ct (ρ : Env) | exc (c : Nat) | bad
def R.fl {α : Type} : R α → (α → Fl) → Fl
  | .ok a, f => f a
  | .exc c, _ => .exc c
  | .bad, _ => .bad
@[simp] theorem R.fl_ok {α : Type} (a : α) (f : α → Fl) : (R.ok a).fl f = f a := Eq.trans rfl rfl
@[simp] theorem R.fl_exc {α : Type} (c : Nat) (f : α → Fl) : (R.exc c : R α).fl f = .exc c := Eq.trans rfl rfl
@[simp] theorem R.fl_bad {α : Type} (f : α → Fl) : (R.bad : R α).fl f = .bad := Eq.trans rfl rfl
def Fl.then (r : Fl) (f : Env → Fl) : Fl := match r with
  | .nx ρ => f ρ
  | o => o
def forL (b : PyData → Env → Fl) : List PyData → Env → Fl
  | [], ρ => .nx ρ
  | x :: xs, ρ => match b x ρ with
    | .nx ρ' => forL b xs ρ'
    | .ct ρ' => forL b xs ρ'
    | .bk ρ' => .nx ρ'
    | o => o
def whileL (c : Env → R Bool) (b : Env → Fl) : Nat → Env → Fl
  | 0, _ => .bad
  | n + 1, ρ => (c ρ).fl fun k => if k then (match b ρ with
      | .nx ρ' => whileL c b n ρ'
      | .ct ρ' => whileL c b n ρ'
      | .bk ρ' => .nx ρ'
      | o => o) else .nx ρ
def frzE (ρ : Env) (i : Nat) : Env := match ρ[i]? with
  | some (.own d) => ρ.set i (.val d)
  | _ => ρ
def isOwn : PyData → Bool
  | .list _ => true
  | .dict ((.none, .none) :: _) => true
  | .dict ((.none, .bool true) :: _) => true
  | _ => false
/-- the turns that a while may take -/
@[irreducible] def WF : Nat := 10 ^ 9
theorem WF_eq : WF = 10 ^ 9 := by unfold WF; rfl

/-- a number put to the first group that the test takes, or alone -/
def grpPut (t : List PyData → R Bool) (x : PyData) : List (List PyData) → R (List (List PyData))
  | [] => .ok [[x]]
  | g :: gs => (t g).bind fun k => (grpPut t x gs).bind fun r => .ok (if k then (g ++ [x]) :: gs else g :: r)
/-- all numbers from i on, so many -/
def grpAll (t : Nat → List PyData → R Bool) : Nat → Nat → List (List PyData) → R (List (List PyData))
  | _, 0, gs => .ok gs
  | i, n + 1, gs => (grpPut (t i) (.int (i : Nat)) gs).bind fun gs' => grpAll t (i + 1) n gs'
def ex (F : Str → List PyData → R PyData) : S → Env → Fl
  | .pass, ρ => .nx ρ
  | .seq a b, ρ => (ex F a ρ).then fun ρ1 => ex F b ρ1
  | .frz i s, ρ => ex F s (frzE ρ i)
  | .set i e, ρ => (ev F false e ρ).fl fun d => .nx (ρ.set i (.val d))
  | .setO i e, ρ => (ev F false e ρ).fl fun d => if isOwn d then .nx (ρ.set i (.own d)) else .bad
  | .unp t e, ρ => (ev F false e ρ).fl fun d => match bindT t d ρ with | some ρ1 => .nx ρ1 | none => .bad
  | .par i j a b, ρ => (ev F false a ρ).fl fun x => (ev F false b ρ).fl fun y => .nx ((ρ.set i (.val x)).set j (.val y))
  | .par3 i j l a b c, ρ => (ev F false a ρ).fl fun x => (ev F false b ρ).fl fun y => (ev F false c ρ).fl fun z => .nx (((ρ.set i (.val x)).set j (.val y)).set l (.val z))
  | .swp i a b, ρ => match ρ[i]? with
      | some (.own (.list xs)) => (ev F true a ρ).fl fun x => (ev F true b ρ).fl fun y => (match x, y with
        | .int p, .int q => (match L2.ixN xs.length p, L2.ixN xs.length q with
          | some j, some l => (match xs[j]?, xs[l]? with | some u, some v => .nx (ρ.set i (.own (.list ((xs.set j v).set l u)))) | _, _ => .bad)
          | _, _ => .bad)
        | _, _ => .bad)
      | _ => .bad
  | .grp fi xi si gi n t, ρ => match ρ[fi]? with
      | some (.own (.list [])) => if (((((ρ.set fi .nul).set xi .nul).set si .nul).set gi .nul).all Slot.noOwn && decide (xi < ρ.length) && decide (si < ρ.length) && decide (gi < ρ.length)) = false then .bad else (ev F true n ((((ρ.set fi .nul).set xi .nul).set si .nul).set gi .nul)).fl fun x => (match x with
        | .int m => if 0 ≤ m ∧ m < 1000 then (grpAll (fun j g => (ev F false t ((((((ρ.set fi .nul).set xi .nul).set si .nul).set gi .nul).set xi (.val (.int (j : Nat)))).set gi (.val (.list g)))).bind asB) 0 m.toNat []).nox.fl fun gs =>
            .nx (((((ρ.set fi .nul).set xi .nul).set si .nul).set gi .nul).set fi (.own (.list (gs.map .list)))) else .bad
        | _ => .bad)
      | _ => .bad
  | .nev, _ => .bad
  | .setIx i k e, ρ => (ev F false e ρ).fl fun d => match ρ[i]? with
      | some (.own (.list xs)) => (ev F true k ρ).fl fun kd => (match kd with
        | .int z => (match L2.ixN xs.length z with | some j => .nx (ρ.set i (.own (.list (xs.set j d)))) | none => .bad)
        | _ => .bad)
      | some (.own (.dict ((.none, .none) :: kvs))) => (ev F false k ρ).fl fun kd => if keyOk true kd && decide (kvs.length < DLIM) then .nx (ρ.set i (.own (dictT (dput kd d kvs)))) else .bad
      | some (.own (.dict ((.none, .bool true) :: kvs))) => (ev F false k ρ).fl fun kd => if keyOk false kd && decide (kvs.length < DLIM) then .nx (ρ.set i (.own (dictK (dput kd d kvs)))) else .bad
      | _ => .bad
  | .app i e, ρ => match ρ[i]? with
      | some (.own (.list xs)) => (ev F false e ρ).fl fun d => if xs.length < LIM then .nx (ρ.set i (.own (.list (xs ++ [d])))) else .bad
      | _ => .bad
  | .ext i e, ρ => match ρ[i]? with
      | some (.own (.list xs)) => (ev F false e ρ).fl fun d => (match d with
        | .list ys => if xs.length + ys.length < LIM then .nx (ρ.set i (.own (.list (xs ++ ys)))) else .bad
        | _ => .bad)
      | _ => .bad
  | .pop0 t i, ρ => match ρ[i]? with
      | some (.own (.list (x :: xs))) => (match bindT t x (ρ.set i (.own (.list xs))) with | some ρ1 => .nx ρ1 | none => .bad)
      | _ => .bad
  | .iff c a b, ρ => (ev F false c ρ).fl fun d => (asB d).fl fun k => if k then ex F a ρ else ex F b ρ
  | .whl c b, ρ => whileL (fun ρ => (ev F false c ρ).bind asB) (fun ρ => ex F b ρ) WF ρ
  | .for_ t s b, ρ => (esrc F s ρ).fl fun xs => forL (fun x ρ => match bindT t x ρ with | some ρ1 => ex F b ρ1 | none => .bad) xs ρ
  | .ret e, ρ => (ev F false e ρ).fl .rt
  | .retN, _ => .rt .none
  | .rai c, _ => .exc c
  | .exp e, ρ => (ev F false e ρ).fl fun _ => .nx ρ
  | .cont, ρ => .ct ρ

/-! ### defs -/
structure Def where
  name : Str
  /-- how many parameters -/
  nps : Nat
  /-- all names by slot, the parameters first -/
  N : List Str
  body : S
  /-- does it make lambdas -/
  lam : Bool := false
def toR : Fl → R PyData
  | .rt d => .ok d
  | .nx _ => .ok .none
  | .exc c => .exc c
  | _ => .bad
def findD (x : Str) : List Def → Option Def
  | [] => none
  | d :: r => if d.name = x then some d else findD x r
/-- n: how many calls one within another -/
def runF (P : List Def) : Nat → Str → List PyData → R PyData
  | 0, _, _ => .bad
  | n + 1, x, ds => match findD x P with
    | none => .bad
    | some d => if ds.length = d.nps then toR (ex (runF P n) d.body (ds.map .val ++ List.replicate (d.N.length - d.nps) .nul)) else .bad
end Iv
end

section
/-! Iv2: which value in which heap is which datum; what a frame's names hold. -/
namespace Iv
open PySem L2 PyProof.Rows

/-- a dict with tuple keys, by its own object alone -/
def DkO (P : Program) (w : World) (d : Addr) (es : List (NestedKey × Addr × Value)) : HO :=
  .ext fun h => (d == sysModules) = false ∧ es.length ≤ sizeLine ∧ ∃ o en ep, h.get? d = some o ∧ o.ExactDict ∧ o.data = .dict en ep ∧ en.toList = es.map (entryOfKey (nestedKind P w)) ∧ (es.map (·.1)).Nodup

/-- what never changes once it stands -/
def isFix : HO → Prop
  | .tup _ => True
  | .frz _ _ => True
  | _ => False

/-- no table of code objects -/
def nt : HO → Prop
  | .tbl _ => False
  | _ => True
theorem nt_ne {o : HO} (h : nt o) (ps : Array Value) : o ≠ .tbl ps := fun e => by rw [e] at h; exact h
theorem nt_of {o : HO} (h : ∀ ps, o ≠ .tbl ps) : nt o := by
  cases o with
  | tbl ps => exact (h ps rfl).elim
  | _ => trivial
theorem nt_mut {o : HO} (h : Mut (some o)) : nt o := by
  cases o with
  | tbl ps => exact (show False from h).elim
  | _ => trivial
/-- nothing stands there, but a table perhaps -/
def nn (H : Hp) (p : Addr) : Prop := ∀ o, H p = some o → ¬ nt o
theorem nn_of {H : Hp} {p : Addr} (h : H p = none) : nn H p := fun o e => by rw [h] at e; cases e
/-- the tables of the defs that make lambdas, each with its lambdas' name -/
class Tb where
  T : List (Addr × Str)

def scriptD (ns : List Int) : PyData := .dict ((.none, .bool false) :: ns.map fun i => (.int i, .none))
def keyD : Key → PyData
  | .inl i => .int i
  | .inr x => .str x

mutual
inductive Rp (K : PySem.W.Frag) (P : Program) (w : World) (H : Hp) (M : Addr → Prop) : V → PyData → Prop
  | non : Rp K P w H M .non .none
  | bl (b : Bool) : Rp K P w H M (.bl b) (.bool b)
  | int (i : Int) : Rp K P w H M (.int i) (.int i)
  | str (x : Str) : Rp K P w H M (.str x) (.str x)
  | lst {a : Addr} {xs : List V} {ds : List PyData} : H a = some (.lst xs) → ¬ M a → RpA K P w H M xs ds → Rp K P w H M (.ref a) (.list ds)
  | tup {a : Addr} {xs : List V} {ds : List PyData} : H a = some (.tup xs) → RpA K P w H M xs ds → Rp K P w H M (.ref a) (.tuple ds)
  | scr {a : Addr} {ns : List Int} : (∃ o, H a = some (.frz o (.lst (ns.map V.int)))) ∨ SqL K (fun _ => none) a (ns.map V.int) ∨ (H a = some (.lst (ns.map V.int)) ∧ ¬ M a) → Rp K P w H M (.ref a) (scriptD ns)
  | dT {a : Addr} {es : List (NestedKey × Addr × Value)} {kvs : List (PyData × PyData)} : H a = some (DkO P w a es) → ¬ M a → RpT K P w H M es kvs → Rp K P w H M (.ref a) (dictT kvs)
  | dK {a : Addr} {es : List (Key × V)} {kvs : List (PyData × PyData)} : H a = some (.dK es) → ¬ M a → RpK K P w H M es kvs → Rp K P w H M (.ref a) (dictK kvs)
inductive RpA (K : PySem.W.Frag) (P : Program) (w : World) (H : Hp) (M : Addr → Prop) : List V → List PyData → Prop
  | nil : RpA K P w H M [] []
  | cons {v : V} {vs : List V} {d : PyData} {ds : List PyData} : Rp K P w H M v d → RpA K P w H M vs ds → RpA K P w H M (v :: vs) (d :: ds)
inductive RpT (K : PySem.W.Frag) (P : Program) (w : World) (H : Hp) (M : Addr → Prop) : List (NestedKey × Addr × Value) → List (PyData × PyData) → Prop
  | nil : RpT K P w H M [] []
  | cons {n : NestedKey} {a : Addr} {u : Value} {v : V} {k d : PyData} {es : List (NestedKey × Addr × Value)} {kvs : List (PyData × PyData)} :
      toKey k = some n → keyOk true k = true → Rp K P w H M (.ref a) k → RelV v u → Rp K P w H M v d → RpT K P w H M es kvs → RpT K P w H M ((n, a, u) :: es) ((k, d) :: kvs)
inductive RpK (K : PySem.W.Frag) (P : Program) (w : World) (H : Hp) (M : Addr → Prop) : List (Key × V) → List (PyData × PyData) → Prop
  | nil : RpK K P w H M [] []
  | cons {k : Key} {v : V} {d : PyData} {es : List (Key × V)} {kvs : List (PyData × PyData)} : Rp K P w H M v d → RpK K P w H M es kvs → RpK K P w H M ((k, v) :: es) ((keyD k, d) :: kvs)
end

section
variable {K : PySem.W.Frag} {P : Program} {w : World} {H H' : Hp} {M M' : Addr → Prop}

mutual
theorem Rp.to (hk : ∀ b o, H b = some o → nt o → (¬ M b ∨ isFix o) → H' b = some o) (hm : ∀ a, M' a → M a ∨ nn H a) : ∀ {v : V} {d : PyData}, Rp K P w H M v d → Rp K P w H' M' v d
  | _, _, .non => .non
  | _, _, .bl b => .bl b
  | _, _, .int i => .int i
  | _, _, .str x => .str x
  | _, _, .lst h n r => .lst (hk _ _ h trivial (.inl n)) (fun z => by
      rcases hm _ z with q | q
      · exact n q
      · exact q _ h trivial) (RpA.to hk hm r)
  | _, _, .tup h r => .tup (hk _ _ h trivial (.inr trivial)) (RpA.to hk hm r)
  | _, _, .scr h => .scr (by
      rcases h with ⟨o, h⟩ | h | ⟨h, n⟩
      · exact .inl ⟨o, hk _ _ h trivial (.inr trivial)⟩
      · exact .inr (.inl h)
      · exact .inr (.inr ⟨hk _ _ h trivial (.inl n), fun z => by
          rcases hm _ z with q | q
          · exact n q
          · exact q _ h trivial⟩))
  | _, _, .dT h n r => .dT (hk _ _ h trivial (.inl n)) (fun z => by
      rcases hm _ z with q | q
      · exact n q
      · exact q _ h trivial) (RpT.to hk hm r)
  | _, _, .dK h n r => .dK (hk _ _ h trivial (.inl n)) (fun z => by
      rcases hm _ z with q | q
      · exact n q
      · exact q _ h trivial) (RpK.to hk hm r)
theorem RpA.to (hk : ∀ b o, H b = some o → nt o → (¬ M b ∨ isFix o) → H' b = some o) (hm : ∀ a, M' a → M a ∨ nn H a) : ∀ {vs : List V} {ds : List PyData}, RpA K P w H M vs ds → RpA K P w H' M' vs ds
  | _, _, .nil => .nil
  | _, _, .cons h r => .cons (Rp.to hk hm h) (RpA.to hk hm r)
theorem RpT.to (hk : ∀ b o, H b = some o → nt o → (¬ M b ∨ isFix o) → H' b = some o) (hm : ∀ a, M' a → M a ∨ nn H a) : ∀ {es : List (NestedKey × Addr × Value)} {kvs : List (PyData × PyData)}, RpT K P w H M es kvs → RpT K P w H' M' es kvs
  | _, _, .nil => .nil
  | _, _, .cons a b c d e r => .cons a b (Rp.to hk hm c) d (Rp.to hk hm e) (RpT.to hk hm r)
theorem RpK.to (hk : ∀ b o, H b = some o → nt o → (¬ M b ∨ isFix o) → H' b = some o) (hm : ∀ a, M' a → M a ∨ nn H a) : ∀ {es : List (Key × V)} {kvs : List (PyData × PyData)}, RpK K P w H M es kvs → RpK K P w H' M' es kvs
  | _, _, .nil => .nil
  | _, _, .cons a r => .cons (Rp.to hk hm a) (RpK.to hk hm r)
end

end
variable [Tb]
section
variable {K : PySem.W.Frag} {P : Program} {w : World} {H H' : Hp} {M M' : Addr → Prop}
/-- what stands stays, but the tables, which only grow -/
structure Sm (H H' : Hp) : Prop where
  st : ∀ b o, H b = some o → nt o → H' b = some o
  tb : LamX.Tabs Tb.T H → LamX.Tabs Tb.T H'
theorem Sm.refl (H : Hp) : Sm H H := ⟨fun _ _ h _ => h, fun h => h⟩
theorem Sm.trans {H H1 H2 : Hp} (a : Sm H H1) (b : Sm H1 H2) : Sm H H2 := ⟨fun c o h n => b.st c o (a.st c o h n) n, fun h => b.tb (a.tb h)⟩
theorem Sm.nn {H H' : Hp} (s : Sm H H') {p : Addr} (h : nn H' p) : nn H p := fun o e n => h o (s.st p o e n) n
theorem Sm.all {H H' : Hp} (k : ∀ b o, H b = some o → H' b = some o) : Sm H H' := ⟨fun b o h _ => k b o h, fun t => t.ext k⟩
theorem Sm.new {H : Hp} {p : Addr} {o : HO} (h : H p = none) : Sm H (upd H p o) := Sm.all fun b x e => by
  rw [upd_ne (ne_of_none e h)]; exact e
theorem tabs_lst {a : Addr} {xs : List V} {o' : HO} (h : H a = some (.lst xs)) (t : LamX.Tabs Tb.T H) : LamX.Tabs Tb.T (upd H a o') := by
  have h1 : ∀ b ps, H b = some (.tbl ps) → b ≠ a := fun b ps e z => by subst z; rw [h] at e; cases e
  have h2 : ∀ b q, H b = some (LamX.CodeO b q) → b ≠ a := fun b q e z => by subst z; rw [h] at e; cases e
  intro p hp
  obtain ⟨ps, a1, a2, a3⟩ := t p hp
  refine ⟨ps, by rw [upd_ne (h1 _ _ a1)]; exact a1, a2, fun pos cv hc => ?_⟩
  obtain ⟨c, e1, e2⟩ := a3 pos cv hc
  exact ⟨c, e1, by rw [upd_ne (h2 _ _ e2)]; exact e2⟩
/-- a new list is written -/
theorem Sm.wrL {a : Addr} {xs : List V} {o' : HO} (s : Sm H H') (n : H a = none) (h : H' a = some (.lst xs)) : Sm H (upd H' a o') :=
  ⟨fun b o e q => by rw [upd_ne (ne_of_none e n)]; exact s.st b o e q, fun t => tabs_lst h (s.tb t)⟩
theorem Rp.sm (s : Sm H H') {v : V} {d : PyData} (h : Rp K P w H M v d) : Rp K P w H' M v d := h.to (fun b o e n _ => s.st b o e n) fun _ z => .inl z
theorem RpA.sm (s : Sm H H') {v : List V} {d : List PyData} (h : RpA K P w H M v d) : RpA K P w H' M v d := h.to (fun b o e n _ => s.st b o e n) fun _ z => .inl z
theorem Rp.sub (s : ∀ a, M' a → M a) {v : V} {d : PyData} (h : Rp K P w H M v d) : Rp K P w H M' v d := h.to (fun _ _ e _ _ => e) fun _ z => .inl (s _ z)
theorem RpA.sub (s : ∀ a, M' a → M a) {v : List V} {d : List PyData} (h : RpA K P w H M v d) : RpA K P w H M' v d := h.to (fun _ _ e _ _ => e) fun _ z => .inl (s _ z)

theorem RpA.length : ∀ {vs : List V} {ds : List PyData}, RpA K P w H M vs ds → vs.length = ds.length
  | _, _, .nil => rfl
  | _, _, .cons _ r => by rw [List.length_cons, List.length_cons, RpA.length r]
theorem RpA.get : ∀ {vs : List V} {ds : List PyData} {i : Nat} {d : PyData}, RpA K P w H M vs ds → ds[i]? = some d → ∃ v, vs[i]? = some v ∧ Rp K P w H M v d
  | _, _, _, _, .nil, e => by simp at e
  | _, _, 0, _, .cons h _, e => by simp at e; subst e; exact ⟨_, rfl, h⟩
  | _, _, i + 1, d, .cons _ r, e => by
    obtain ⟨v, h1, h2⟩ := RpA.get (i := i) (d := d) r (by simpa using e)
    exact ⟨v, by simpa using h1, h2⟩
theorem RpA.getV : ∀ {vs : List V} {ds : List PyData} {i : Nat} {v : V}, RpA K P w H M vs ds → vs[i]? = some v → ∃ d, ds[i]? = some d ∧ Rp K P w H M v d
  | _, _, _, _, .nil, e => by simp at e
  | _, _, 0, _, .cons h _, e => by simp at e; subst e; exact ⟨_, rfl, h⟩
  | _, _, i + 1, v, .cons _ r, e => by
    obtain ⟨d, h1, h2⟩ := RpA.getV (i := i) (v := v) r (by simpa using e)
    exact ⟨d, by simpa using h1, h2⟩
theorem RpA.append : ∀ {vs us : List V} {ds es : List PyData}, RpA K P w H M vs ds → RpA K P w H M us es → RpA K P w H M (vs ++ us) (ds ++ es)
  | _, _, _, _, .nil, q => q
  | _, _, _, _, .cons h r, q => .cons h (RpA.append r q)
theorem RpA.take : ∀ {vs : List V} {ds : List PyData} (n : Nat), RpA K P w H M vs ds → RpA K P w H M (vs.take n) (ds.take n)
  | _, _, 0, _ => .nil
  | _, _, _ + 1, .nil => .nil
  | _, _, n + 1, .cons h r => .cons h (RpA.take n r)
theorem RpA.drop : ∀ {vs : List V} {ds : List PyData} (n : Nat), RpA K P w H M vs ds → RpA K P w H M (vs.drop n) (ds.drop n)
  | _, _, 0, h => h
  | _, _, _ + 1, .nil => .nil
  | _, _, n + 1, .cons _ r => RpA.drop n r
theorem RpA.set : ∀ {vs : List V} {ds : List PyData} (n : Nat) {v : V} {d : PyData}, RpA K P w H M vs ds → Rp K P w H M v d → RpA K P w H M (vs.set n v) (ds.set n d)
  | _, _, _, _, _, .nil, _ => .nil
  | _, _, 0, _, _, .cons _ r, q => .cons q r
  | _, _, n + 1, _, _, .cons h r, q => .cons h (RpA.set n r q)
theorem RpA.rep {vs : List V} {ds : List PyData} (h : RpA K P w H M vs ds) : ∀ n : Nat, RpA K P w H M (List.replicate n vs).flatten (List.replicate n ds).flatten
  | 0 => .nil
  | n + 1 => by
    rw [List.replicate_succ, List.replicate_succ, List.flatten_cons, List.flatten_cons]
    exact h.append (RpA.rep h n)
theorem RpA.reverse : ∀ {vs : List V} {ds : List PyData}, RpA K P w H M vs ds → RpA K P w H M vs.reverse ds.reverse
  | _, _, .nil => .nil
  | _, _, .cons h r => by
    rw [List.reverse_cons, List.reverse_cons]
    exact (RpA.reverse r).append (.cons h .nil)
theorem RpA.ints : ∀ {vs : List V} {ns : List Int}, RpA K P w H M vs (ns.map .int) → vs = ns.map V.int
  | vs, [], h => by cases h; rfl
  | vs, n :: ns, h => by
    cases h with
    | cons h r => cases h; rw [RpA.ints r]; rfl
theorem RpA.ofInts : ∀ (ns : List Int), RpA K P w H M (ns.map V.int) (ns.map .int)
  | [] => .nil
  | n :: ns => .cons (.int n) (RpA.ofInts ns)
theorem RpA.bools : ∀ {vs : List V} {ns : List Bool}, RpA K P w H M vs (ns.map .bool) → vs = ns.map V.bl
  | vs, [], h => by cases h; rfl
  | vs, n :: ns, h => by
    cases h with
    | cons h r => cases h; rw [RpA.bools r]; rfl
theorem RpA.one {vs : List V} {d : PyData} (h : RpA K P w H M vs [d]) : ∃ v, vs = [v] ∧ Rp K P w H M v d := by
  cases h with
  | cons h r => cases r; exact ⟨_, rfl, h⟩
theorem RpA.two {vs : List V} {d e : PyData} (h : RpA K P w H M vs [d, e]) : ∃ v u, vs = [v, u] ∧ Rp K P w H M v d ∧ Rp K P w H M u e := by
  cases h with
  | cons h r => obtain ⟨u, rfl, q⟩ := r.one; exact ⟨_, _, rfl, h, q⟩

/-! ### data for == -/
mutual
def nd : PyData → Bool
  | .list xs => nds xs
  | .tuple xs => nds xs
  | .dict _ => false
  | _ => true
def nds : List PyData → Bool
  | [] => true
  | x :: xs => nd x && nds xs
end
mutual
theorem nd_lay : ∀ d : PyData, d.canLay0 = true → nd d = true
  | .none, _ => rfl
  | .bool _, _ => rfl
  | .int _, _ => rfl
  | .str _, _ => rfl
  | .list xs, h => by rw [nd]; exact nds_lay xs (by simpa [PyData.canLay0] using h)
  | .tuple xs, h => by rw [nd]; exact nds_lay xs (by simpa [PyData.canLay0] using h)
  | .dict _, h => by simp [PyData.canLay0] at h
theorem nds_lay : ∀ d : List PyData, PyData.canLayAll0 d = true → nds d = true
  | [], _ => rfl
  | d :: ds, h => by
    rw [PyData.canLayAll0, Bool.and_eq_true] at h
    rw [nds, nd_lay d h.1, nds_lay ds h.2]; rfl
end
mutual
theorem nd_alike : ∀ d : PyData, W.alike d d = true → nd d = true
  | .none, _ => rfl
  | .bool _, _ => rfl
  | .int _, _ => rfl
  | .str _, _ => rfl
  | .list xs, h => by rw [nd]; exact nds_alike xs (by simpa [W.alike] using h)
  | .tuple xs, h => by rw [nd]; exact nds_alike xs (by simpa [W.alike] using h)
  | .dict _, h => by simp [W.alike] at h
theorem nds_alike : ∀ d : List PyData, W.alikeAll d d = true → nds d = true
  | [], _ => rfl
  | d :: ds, h => by
    rw [W.alikeAll, Bool.and_eq_true] at h
    rw [nds, nd_alike d h.1, nds_alike ds h.2]; rfl
end
mutual
theorem Rp.dp : ∀ {d : PyData} {v : V}, nd d = true → Rp K P w H M v d → Dp K H v d
  | .none, _, _, h => by cases h; exact .non
  | .bool _, _, _, h => by cases h; exact .bl _
  | .int _, _, _, h => by cases h; exact .int _
  | .str _, _, _, h => by cases h; exact .str _
  | .list ds, _, c, h => by
    cases h with
    | lst h n r => exact .lst (SqL.of h) (RpA.dp (by simpa [nd] using c) r)
  | .tuple ds, _, c, h => by
    cases h with
    | tup h r => exact .tup (SqT.of h) (RpA.dp (by simpa [nd] using c) r)
  | .dict _, _, c, _ => by simp [nd] at c
theorem RpA.dp : ∀ {ds : List PyData} {vs : List V}, nds ds = true → RpA K P w H M vs ds → DpAll K H vs ds
  | [], _, _, h => by cases h; exact .nil
  | d :: ds, _, c, h => by
    rw [nds, Bool.and_eq_true] at c
    cases h with
    | cons h r => exact .cons (Rp.dp c.1 h) (RpA.dp c.2 r)
end
end

/-! ### what is read alone may be a frame's own list -/
def RpO (K : PySem.W.Frag) (P : Program) (w : World) (H : Hp) (M : Addr → Prop) (a : Addr) (d : PyData) : Prop :=
  (∃ xs ds, d = .list ds ∧ H a = some (.lst xs) ∧ RpA K P w H M xs ds) ∨ (∃ es kvs, d = dictT kvs ∧ H a = some (DkO P w a es) ∧ RpT K P w H M es kvs) ∨ ∃ es kvs, d = dictK kvs ∧ H a = some (.dK es) ∧ RpK K P w H M es kvs
def RpR (K : PySem.W.Frag) (P : Program) (w : World) (H : Hp) (M : Addr → Prop) (v : V) (d : PyData) : Prop :=
  Rp K P w H M v d ∨ ∃ a, v = .ref a ∧ RpO K P w H M a d

section
variable {K : PySem.W.Frag} {P : Program} {w : World} {H H' : Hp} {M M' : Addr → Prop} {v : V} {d : PyData}
theorem RpO.to {a : Addr} (hk : ∀ b o, H b = some o → nt o → (¬ M b ∨ isFix o) → H' b = some o) (hm : ∀ a, M' a → M a ∨ nn H a) (ha : ∀ o, H a = some o → nt o → H' a = some o) (h : RpO K P w H M a d) : RpO K P w H' M' a d := by
  rcases h with ⟨xs, ds, e, h, r⟩ | ⟨xs, ds, e, h, r⟩ | ⟨xs, ds, e, h, r⟩
  · exact .inl ⟨xs, ds, e, ha _ h trivial, r.to hk hm⟩
  · exact .inr (.inl ⟨xs, ds, e, ha _ h trivial, r.to hk hm⟩)
  · exact .inr (.inr ⟨xs, ds, e, ha _ h trivial, r.to hk hm⟩)
theorem RpO.sm {a : Addr} (s : Sm H H') (h : RpO K P w H M a d) : RpO K P w H' M a d := h.to (fun b o e n _ => s.st b o e n) (fun _ z => .inl z) fun o e n => s.st a o e n
theorem RpO.frozen {a : Addr} (h : RpO K P w H M a d) (n : ¬ M a) : Rp K P w H M (.ref a) d := by
  rcases h with ⟨xs, ds, rfl, h, r⟩ | ⟨xs, ds, rfl, h, r⟩ | ⟨xs, ds, rfl, h, r⟩
  · exact .lst h n r
  · exact .dT h n r
  · exact .dK h n r
theorem RpO.isOwn {a : Addr} (h : RpO K P w H M a d) : isOwn d = true := by
  rcases h with ⟨xs, ds, rfl, h, r⟩ | ⟨xs, ds, rfl, h, r⟩ | ⟨xs, ds, rfl, h, r⟩ <;> rfl
theorem RpO.there {a : Addr} (h : RpO K P w H M a d) : ∃ o, H a = some o ∧ Mut (some o) := by
  rcases h with ⟨xs, ds, rfl, h, r⟩ | ⟨xs, ds, rfl, h, r⟩ | ⟨xs, ds, rfl, h, r⟩ <;> exact ⟨_, h, trivial⟩
theorem dko_ne {es : List (NestedKey × Addr × Value)} {a c : Addr} {q : Str} : DkO P w a es ≠ LamX.CodeO c q := fun e => by
  unfold DkO LamX.CodeO at e
  have e' := HO.ext.inj e
  have ho : ∀ b, ({ objs := Array.replicate (c + 1) { cls := .none, data := .fields #[.none, .str q 0] } } : Heap).get? b = if b < c + 1 then some { cls := .none, data := .fields #[.none, .str q 0] } else none := fun b => by
    unfold Heap.get?
    by_cases hb : b < c + 1
    · rw [if_pos hb]; simp [Array.getElem?_replicate, hb]
    · rw [if_neg hb]; simp [Array.getElem?_replicate, hb]
  have e2 := congrFun e' { objs := Array.replicate (c + 1) { cls := .none, data := .fields #[.none, .str q 0] } }
  have h1 := e2.mpr ⟨_, _, _, (ho c).trans (if_pos (Nat.lt_succ_self c)), rfl, rfl⟩
  obtain ⟨_, _, o, en, ep, g1, _, g2, _⟩ := h1
  rw [ho] at g1
  split at g1
  · cases g1; cases g2
  · cases g1
theorem RpO.tabs {a : Addr} {o' : HO} (h : RpO K P w H M a d) (t : LamX.Tabs Tb.T H) : LamX.Tabs Tb.T (upd H a o') := by
  have h1 : ∀ b ps, H b = some (.tbl ps) → b ≠ a := fun b ps e z => by
    subst z
    rcases h with ⟨xs, ds, _, h, r⟩ | ⟨xs, ds, _, h, r⟩ | ⟨xs, ds, _, h, r⟩ <;> rw [h] at e <;> cases e
  have h2 : ∀ b q, H b = some (LamX.CodeO b q) → b ≠ a := fun b q e z => by
    subst z
    rcases h with ⟨xs, ds, _, h, r⟩ | ⟨xs, ds, _, h, r⟩ | ⟨xs, ds, _, h, r⟩
    · rw [h] at e; cases e
    · rw [h] at e; exact dko_ne (Option.some.inj e)
    · rw [h] at e; cases e
  intro p hp
  obtain ⟨ps, a1, a2, a3⟩ := t p hp
  refine ⟨ps, by rw [upd_ne (h1 _ _ a1)]; exact a1, a2, fun pos cv hc => ?_⟩
  obtain ⟨c, e1, e2⟩ := a3 pos cv hc
  exact ⟨c, e1, by rw [upd_ne (h2 _ _ e2)]; exact e2⟩
theorem RpR.sm (s : Sm H H') (h : RpR K P w H M v d) : RpR K P w H' M v d := by
  rcases h with h | ⟨a, e, h⟩
  · exact .inl (h.sm s)
  · exact .inr ⟨a, e, h.sm s⟩
theorem RpR.int {i : Int} (h : RpR K P w H M v (.int i)) : v = .int i := by
  rcases h with h | ⟨a, e, ⟨_, _, q, _⟩ | ⟨_, _, q, _⟩ | ⟨_, _, q, _⟩⟩
  · cases h; rfl
  all_goals cases q
theorem RpR.bool {i : Bool} (h : RpR K P w H M v (.bool i)) : v = .bl i := by
  rcases h with h | ⟨a, e, ⟨_, _, q, _⟩ | ⟨_, _, q, _⟩ | ⟨_, _, q, _⟩⟩
  · cases h; rfl
  all_goals cases q
theorem RpR.str {i : Str} (h : RpR K P w H M v (.str i)) : v = .str i := by
  rcases h with h | ⟨a, e, ⟨_, _, q, _⟩ | ⟨_, _, q, _⟩ | ⟨_, _, q, _⟩⟩
  · cases h; rfl
  all_goals cases q
theorem RpR.non (h : RpR K P w H M v .none) : v = .non := by
  rcases h with h | ⟨a, e, ⟨_, _, q, _⟩ | ⟨_, _, q, _⟩ | ⟨_, _, q, _⟩⟩
  · cases h; rfl
  all_goals cases q
theorem RpR.tup {ds : List PyData} (h : RpR K P w H M v (.tuple ds)) : ∃ a xs, v = .ref a ∧ H a = some (.tup xs) ∧ RpA K P w H M xs ds := by
  rcases h with h | ⟨a, e, ⟨_, _, q, _⟩ | ⟨_, _, q, _⟩ | ⟨_, _, q, _⟩⟩
  · cases h with | tup h r => exact ⟨_, _, rfl, h, r⟩
  all_goals cases q
theorem RpR.lst {ds : List PyData} (h : RpR K P w H M v (.list ds)) : ∃ a xs, v = .ref a ∧ H a = some (.lst xs) ∧ RpA K P w H M xs ds := by
  rcases h with h | ⟨a, e, ⟨_, _, q, h, r⟩ | ⟨_, _, q, _⟩ | ⟨_, _, q, _⟩⟩
  · cases h with | lst h n r => exact ⟨_, _, rfl, h, r⟩
  · cases q; exact ⟨_, _, e, h, r⟩
  all_goals cases q
theorem RpR.dp (c : nd d = true) (h : RpR K P w H M v d) : Dp K H v d := by
  rcases h with h | ⟨a, rfl, ⟨xs, ds, rfl, h, r⟩ | ⟨_, _, rfl, _⟩ | ⟨_, _, rfl, _⟩⟩
  · exact h.dp c
  · exact .lst (SqL.of h) (r.dp (by simpa [nd] using c))
  all_goals (simp [nd, dictT, dictK] at c)
theorem RpR.dT {kvs : List (PyData × PyData)} (h : RpR K P w H M v (dictT kvs)) : ∃ a es, v = .ref a ∧ H a = some (DkO P w a es) ∧ RpT K P w H M es kvs := by
  rcases h with h | ⟨a, e, ⟨_, _, q, _⟩ | ⟨_, _, q, h, r⟩ | ⟨_, _, q, _⟩⟩
  · generalize hd : dictT kvs = d at h
    cases h with
    | scr h => cases hd
    | dT h n r => cases hd; exact ⟨_, _, rfl, h, r⟩
    | dK h n r => cases hd
    | _ => cases hd
  · cases q
  · cases q; exact ⟨_, _, e, h, r⟩
  · cases q
theorem RpR.dK {kvs : List (PyData × PyData)} (h : RpR K P w H M v (dictK kvs)) : ∃ a es, v = .ref a ∧ H a = some (.dK es) ∧ RpK K P w H M es kvs := by
  rcases h with h | ⟨a, e, ⟨_, _, q, _⟩ | ⟨_, _, q, _⟩ | ⟨_, _, q, h, r⟩⟩
  · generalize hd : dictK kvs = d at h
    cases h with
    | scr h => cases hd
    | dT h n r => cases hd
    | dK h n r => cases hd; exact ⟨_, _, rfl, h, r⟩
    | _ => cases hd
  · cases q
  · cases q
  · cases q; exact ⟨_, _, e, h, r⟩
theorem RpR.scr {kvs : List (PyData × PyData)} (h : RpR K P w H M v (.dict ((.none, .bool false) :: kvs))) : ∃ (a : Addr) (ns : List Int), v = .ref a ∧ kvs = ns.map (fun i => (.int i, .none)) ∧ SqL K H a (ns.map V.int) := by
  rcases h with h | ⟨a, e, ⟨_, _, q, _⟩ | ⟨_, _, q, _⟩ | ⟨_, _, q, h, r⟩⟩
  · generalize hd : PyData.dict ((.none, .bool false) :: kvs) = d at h
    cases h with
    | scr h =>
      cases hd
      refine ⟨_, _, rfl, rfl, ?_⟩
      rcases h with ⟨o, h⟩ | h | h
      · exact .inl (.inr ⟨o, h⟩)
      · rcases h with h | h
        · rcases h with h | ⟨_, h⟩ <;> cases h
        · exact .inr h
      · exact .inl (.inl h.1)
    | dT h n r => cases hd
    | dK h n r => cases hd
    | _ => cases hd
  · cases q
  · cases q
  · cases q
end

/-! ### a frame's names -/
structure SIv (K : PySem.W.Frag) (P : Program) (w : World) (Pn : Addr → HO → Prop) (M0 M : Addr → Prop) (σ : L2.St) (H : Hp) (ρ : Env) : Prop where
  len : ρ.length = σ.length
  val : ∀ (i : Nat) (d : PyData), ρ[i]? = some (Slot.val d) → ∃ v, σ[i]? = some (some v) ∧ Rp K P w H M v d
  own : ∀ (i : Nat) (d : PyData), ρ[i]? = some (Slot.own d) → ∃ a, σ[i]? = some (some (.ref a)) ∧ M a ∧ ¬ M0 a ∧ (∀ o, ¬ Pn a o) ∧ RpO K P w H M a d
  inj : ∀ (i j : Nat) (d e : PyData) (a : Addr), ρ[i]? = some (Slot.own d) → ρ[j]? = some (Slot.own e) → σ[i]? = some (some (.ref a)) → σ[j]? = some (some (.ref a)) → i = j
  mh : ∀ a, M a → ∃ o, H a = some o ∧ Mut (some o)
  m0 : ∀ a, M0 a → M a
  pin : ∀ a o, Pn a o → H a = some o
  mp : ∀ a, M a → M0 a ∨ ∀ o, ¬ Pn a o
  pnt : ∀ a o, Pn a o → nt o
  tb : LamX.Tabs Tb.T H

section
variable {K : PySem.W.Frag} {P : Program} {w : World} {Pn Pn' : Addr → HO → Prop} {M0 M : Addr → Prop} {σ : L2.St} {H H' : Hp} {ρ : Env}
theorem SIv.sm (I : SIv K P w Pn M0 M σ H ρ) (s : Sm H H') : SIv K P w Pn M0 M σ H' ρ where
  len := I.len
  val := fun i d e => let ⟨v, a, b⟩ := I.val i d e; ⟨v, a, b.sm s⟩
  own := fun i d e => let ⟨a, h1, h2, h3, h4, h5⟩ := I.own i d e; ⟨a, h1, h2, h3, h4, h5.sm s⟩
  inj := I.inj
  mh := fun a m => let ⟨o, h1, h2⟩ := I.mh a m; ⟨o, s.st a o h1 (nt_mut h2), h2⟩
  m0 := I.m0
  pin := fun a o p => s.st a o (I.pin a o p) (I.pnt a o p)
  mp := I.mp
  pnt := I.pnt
  tb := s.tb I.tb
theorem SIv.pins (I : SIv K P w Pn M0 M σ H ρ) (h : ∀ a o, Pn' a o → Pn a o) : SIv K P w Pn' M0 M σ H ρ where
  len := I.len
  val := I.val
  own := fun i d e => let ⟨a, h1, h2, h3, h4, h5⟩ := I.own i d e; ⟨a, h1, h2, h3, fun o z => h4 o (h a o z), h5⟩
  inj := I.inj
  mh := I.mh
  m0 := I.m0
  pin := fun a o p => I.pin a o (h a o p)
  mp := fun a z => (I.mp a z).elim .inl fun q => .inr fun o p => q o (h a o p)
  pnt := fun a o p => I.pnt a o (h a o p)
  tb := I.tb
/-- what is frozen now is pinned -/
theorem SIv.pinned (I : SIv K P w Pn M0 M σ H ρ) : SIv K P w (fun a o => Pn a o ∨ (H a = some o ∧ nt o ∧ ¬ M a)) M0 M σ H ρ where
  len := I.len
  val := I.val
  own := fun i d e => let ⟨a, h1, h2, h3, h4, h5⟩ := I.own i d e; ⟨a, h1, h2, h3, fun o z => by
    rcases z with z | ⟨_, _, z⟩
    · exact h4 o z
    · exact z h2, h5⟩
  inj := I.inj
  mh := I.mh
  m0 := I.m0
  pin := fun a o p => by
    rcases p with p | ⟨p, _⟩
    · exact I.pin a o p
    · exact p
  mp := fun a z => (I.mp a z).elim .inl fun q => .inr fun o p => p.elim (q o) fun p => p.2.2 z
  pnt := fun a o p => p.elim (I.pnt a o) fun p => p.2.1
  tb := I.tb
theorem SIv.rd (I : SIv K P w Pn M0 M σ H ρ) {i : Nat} {m : Bool} {d : PyData} (h : rdS m ρ[i]? = .ok d) :
    ∃ v, σ[i]? = some (some v) ∧ (if m then RpR K P w H M v d else Rp K P w H M v d) := by
  unfold rdS at h
  split at h
  · rename_i d' e
    cases h
    obtain ⟨v, h1, h2⟩ := I.val i _ e
    refine ⟨v, h1, ?_⟩
    cases m
    · exact h2
    · exact .inl h2
  · rename_i d' e
    cases m with
    | false => cases h
    | true =>
      cases h
      obtain ⟨a, h1, h2, h3, h4, h5⟩ := I.own i _ e
      exact ⟨.ref a, h1, .inr ⟨a, rfl, h5⟩⟩
  · cases h
/-- a name gets a value -/
theorem SIv.set (I : SIv K P w Pn M0 M σ H ρ) {i : Nat} {v : V} {d : PyData} (h : Rp K P w H M v d) : SIv K P w Pn M0 M (σ.set i (some v)) H (ρ.set i (Slot.val d)) where
  len := by rw [List.length_set, List.length_set, I.len]
  val := fun j d' e => by
    by_cases hij : i = j
    · subst hij
      rw [List.getElem?_set] at e
      simp only [if_true] at e
      split at e
      · rename_i hl
        cases e
        exact ⟨v, by rw [List.getElem?_set]; simp [← I.len, hl], h⟩
      · cases e
    · rw [List.getElem?_set_ne hij] at e
      obtain ⟨u, h1, h2⟩ := I.val j d' e
      exact ⟨u, by rw [List.getElem?_set_ne hij]; exact h1, h2⟩
  own := fun j d' e => by
    by_cases hij : i = j
    · subst hij
      rw [List.getElem?_set] at e
      simp only [if_true] at e
      split at e <;> cases e
    · rw [List.getElem?_set_ne hij] at e
      obtain ⟨a, h1, h2⟩ := I.own j d' e
      exact ⟨a, by rw [List.getElem?_set_ne hij]; exact h1, h2⟩
  inj := fun j k d' e' a h1 h2 h3 h4 => by
    have nj : i ≠ j := fun z => by
      subst z; rw [List.getElem?_set] at h1; simp only [if_true] at h1; split at h1 <;> cases h1
    have nk : i ≠ k := fun z => by
      subst z; rw [List.getElem?_set] at h2; simp only [if_true] at h2; split at h2 <;> cases h2
    rw [List.getElem?_set_ne nj] at h1 h3
    rw [List.getElem?_set_ne nk] at h2 h4
    exact I.inj j k d' e' a h1 h2 h3 h4
  mh := I.mh
  m0 := I.m0
  pin := I.pin
  mp := I.mp
  pnt := I.pnt
  tb := I.tb
/-- a name gets a new list of its own -/
theorem SIv.setO (I : SIv K P w Pn M0 M σ H ρ) {i : Nat} {p : Addr} {d : PyData} {H' : Hp} (s : Sm H H') (hp : nn H p) (h : RpO K P w H' (fun a => M a ∨ a = p) p d) :
    SIv K P w Pn M0 (fun a => M a ∨ a = p) (σ.set i (some (.ref p))) H' (ρ.set i (Slot.own d)) where
  len := by rw [List.length_set, List.length_set, I.len]
  val := fun j d' e => by
    by_cases hij : i = j
    · subst hij
      rw [List.getElem?_set] at e
      simp only [if_true] at e
      split at e <;> cases e
    · rw [List.getElem?_set_ne hij] at e
      obtain ⟨u, h1, h2⟩ := I.val j d' e
      exact ⟨u, by rw [List.getElem?_set_ne hij]; exact h1, h2.to (fun b o e n _ => s.st b o e n) fun a z => z.elim .inl fun z => .inr (by rw [z]; exact hp)⟩
  own := fun j d' e => by
    by_cases hij : i = j
    · subst hij
      rw [List.getElem?_set] at e
      simp only [if_true] at e
      split at e
      · rename_i hl
        cases e
        refine ⟨p, by rw [List.getElem?_set]; simp [← I.len, hl], .inr rfl, fun z => ?_, fun o z => ?_, h⟩
        · obtain ⟨o, q, qm⟩ := I.mh p (I.m0 p z)
          exact hp _ q (nt_mut qm)
        exact hp _ (I.pin p o z) (I.pnt p o z)
      · cases e
    · rw [List.getElem?_set_ne hij] at e
      obtain ⟨a, h1, h2, h3, h4, h5⟩ := I.own j d' e
      exact ⟨a, by rw [List.getElem?_set_ne hij]; exact h1, .inl h2, h3, h4, h5.to (fun b o e n _ => s.st b o e n) (fun a z => z.elim .inl fun z => .inr (by rw [z]; exact hp)) fun o e n => s.st a o e n⟩
  inj := fun j k d' e' a h1 h2 h3 h4 => by
    have fresh : ∀ j d', i ≠ j → ρ[j]? = some (Slot.own d') → σ[j]? = some (some (.ref p)) → False := fun j d' _ e z => by
      obtain ⟨a, q1, q2, _⟩ := I.own j d' e
      rw [z] at q1; cases q1
      obtain ⟨o, q, qm⟩ := I.mh p q2
      exact hp _ q (nt_mut qm)
    have hset : ∀ j, i = j → (ρ.set i (Slot.own d))[j]? = some (Slot.own d') ∨ (ρ.set i (Slot.own d))[j]? = some (Slot.own e') → (σ.set i (some (V.ref p)))[j]? = some (some (.ref a)) → a = p := fun j z _ q => by
      subst z
      rw [List.getElem?_set] at q
      simp only [if_true] at q
      split at q
      · cases q; rfl
      · cases q
    by_cases hj : i = j
    · by_cases hk : i = k
      · exact hj.symm.trans hk
      · have := hset j hj (.inl h1) h3
        subst this
        rw [List.getElem?_set_ne hk] at h2 h4
        exact (fresh k e' hk h2 h4).elim
    · by_cases hk : i = k
      · have := hset k hk (.inr h2) h4
        subst this
        rw [List.getElem?_set_ne hj] at h1 h3
        exact (fresh j d' hj h1 h3).elim
      · rw [List.getElem?_set_ne hj] at h1 h3
        rw [List.getElem?_set_ne hk] at h2 h4
        exact I.inj j k d' e' a h1 h2 h3 h4
  mh := fun a z => by
    rcases z with z | rfl
    · obtain ⟨o, h1, h2⟩ := I.mh a z
      exact ⟨o, s.st a o h1 (nt_mut h2), h2⟩
    · exact h.there
  m0 := fun a z => .inl (I.m0 a z)
  pin := fun a o z => s.st a o (I.pin a o z) (I.pnt a o z)
  mp := fun a z => by
    rcases z with z | rfl
    · exact I.mp a z
    · refine .inr fun o z => ?_
      exact hp _ (I.pin a o z) (I.pnt a o z)
  pnt := I.pnt
  tb := s.tb I.tb
/-- an own list is written -/
theorem SIv.wr (I : SIv K P w Pn M0 M σ H ρ) {i : Nat} {a : Addr} {d d' : PyData} {o' : HO} (hi : ρ[i]? = some (Slot.own d)) (ha : σ[i]? = some (some (.ref a))) (h : RpO K P w (upd H a o') M a d') :
    SIv K P w Pn M0 M σ (upd H a o') (ρ.set i (Slot.own d')) := by
  obtain ⟨a', q1, q2, q3, q4, q5⟩ := I.own i d hi
  rw [ha] at q1; cases q1
  obtain ⟨oa, hoa, hmu⟩ := q5.there
  have keep : ∀ b o, H b = some o → nt o → (¬ M b ∨ isFix o) → upd H a o' b = some o := fun b o e _ z => by
    by_cases hb : b = a
    · subst hb
      rcases z with z | z
      · exact (z q2).elim
      · rw [hoa] at e; cases e
        cases oa <;> first | exact z.elim | exact hmu.elim
    · rw [upd_ne hb]; exact e
  have il : i < ρ.length := by
    obtain ⟨h1, _⟩ := List.getElem?_eq_some_iff.mp hi
    exact h1
  refine ⟨by rw [List.length_set]; exact I.len, fun j e hj => ?_, fun j e hj => ?_, fun j k e f b h1 h2 h3 h4 => ?_, fun b z => ?_, I.m0, fun b o z => ?_, I.mp, I.pnt, q5.tabs I.tb⟩
  · by_cases hij : i = j
    · subst hij
      rw [List.getElem?_set_self il] at hj; cases hj
    · rw [List.getElem?_set_ne hij] at hj
      obtain ⟨v, h1, h2⟩ := I.val j e hj
      exact ⟨v, h1, h2.to keep fun _ z => .inl z⟩
  · by_cases hij : i = j
    · subst hij
      rw [List.getElem?_set_self il] at hj; cases hj
      exact ⟨a, ha, q2, q3, q4, h⟩
    · rw [List.getElem?_set_ne hij] at hj
      obtain ⟨b, h1, h2, h3, h4, h5⟩ := I.own j e hj
      have hba : b ≠ a := fun z => by
        subst z
        exact hij (I.inj i j d e b hi hj ha h1)
      exact ⟨b, h1, h2, h3, h4, h5.to keep (fun _ z => .inl z) fun o e _ => by rw [upd_ne hba]; exact e⟩
  · have hx : ∀ j e, (ρ.set i (Slot.own d'))[j]? = some (Slot.own e) → ∃ e', ρ[j]? = some (Slot.own e') := fun j e hj => by
      by_cases hij : i = j
      · subst hij; exact ⟨d, hi⟩
      · rw [List.getElem?_set_ne hij] at hj; exact ⟨e, hj⟩
    obtain ⟨e1, p1⟩ := hx j e h1
    obtain ⟨e2, p2⟩ := hx k f h2
    exact I.inj j k e1 e2 b p1 p2 h3 h4
  · by_cases hb : b = a
    · subst hb; exact h.there
    · obtain ⟨o, h1, h2⟩ := I.mh b z
      exact ⟨o, by rw [upd_ne hb]; exact h1, h2⟩
  · have hb : b ≠ a := fun e => by subst e; exact q4 o z
    rw [upd_ne hb]; exact I.pin b o z
/-- an own list is frozen -/
theorem SIv.frz (I : SIv K P w Pn M0 M σ H ρ) (i : Nat) : ∃ M', SIv K P w Pn M0 M' σ H (frzE ρ i) := by
  unfold frzE
  split
  · rename_i d hi
    obtain ⟨a, q1, q2, q3, q4, q5⟩ := I.own i d hi
    have il : i < ρ.length := by
      obtain ⟨h1, _⟩ := List.getElem?_eq_some_iff.mp hi
      exact h1
    have sub : ∀ b, (M b ∧ b ≠ a) → M b ∨ nn H b := fun b z => .inl z.1
    have keep : ∀ b o, H b = some o → nt o → (¬ M b ∨ isFix o) → H b = some o := fun _ _ e _ _ => e
    refine ⟨fun b => M b ∧ b ≠ a, by rw [List.length_set]; exact I.len, fun j e hj => ?_, fun j e hj => ?_, fun j k e f b h1 h2 h3 h4 => ?_, fun b z => I.mh b z.1, fun b z => ⟨I.m0 b z, fun e => ?_⟩, I.pin, fun b z => I.mp b z.1, I.pnt, I.tb⟩
    · by_cases hij : i = j
      · subst hij
        rw [List.getElem?_set_self il] at hj; cases hj
        exact ⟨.ref a, q1, (q5.to keep sub fun _ e _ => e).frozen fun z => z.2 rfl⟩
      · rw [List.getElem?_set_ne hij] at hj
        obtain ⟨v, h1, h2⟩ := I.val j e hj
        exact ⟨v, h1, h2.to keep sub⟩
    · by_cases hij : i = j
      · subst hij
        rw [List.getElem?_set_self il] at hj; cases hj
      · rw [List.getElem?_set_ne hij] at hj
        obtain ⟨b, h1, h2, h3, h4, h5⟩ := I.own j e hj
        have hba : b ≠ a := fun z => by
          subst z
          exact hij (I.inj i j d e b hi hj q1 h1)
        exact ⟨b, h1, ⟨h2, hba⟩, h3, h4, h5.to keep sub fun _ e _ => e⟩
    · have hx : ∀ j e, (ρ.set i (Slot.val d))[j]? = some (Slot.own e) → ρ[j]? = some (Slot.own e) := fun j e hj => by
        by_cases hij : i = j
        · subst hij; rw [List.getElem?_set_self il] at hj; cases hj
        · rw [List.getElem?_set_ne hij] at hj; exact hj
      exact I.inj j k e f b (hx j e h1) (hx k f h2) h3 h4
    · subst e; exact q3 z
  · exact ⟨M, I⟩
/-- names forgotten -/
theorem SIv.wipe1 (I : SIv K P w Pn M0 M σ H ρ) (i : Nat) : SIv K P w Pn M0 M (σ.set i none) H (ρ.set i Slot.nul) where
  len := by rw [List.length_set, List.length_set, I.len]
  val := fun j d' e => by
    by_cases hij : i = j
    · subst hij
      rw [List.getElem?_set] at e
      simp only [if_true] at e
      split at e <;> cases e
    · rw [List.getElem?_set_ne hij] at e
      obtain ⟨u, h1, h2⟩ := I.val j d' e
      exact ⟨u, by rw [List.getElem?_set_ne hij]; exact h1, h2⟩
  own := fun j d' e => by
    by_cases hij : i = j
    · subst hij
      rw [List.getElem?_set] at e
      simp only [if_true] at e
      split at e <;> cases e
    · rw [List.getElem?_set_ne hij] at e
      obtain ⟨a, h1, h2⟩ := I.own j d' e
      exact ⟨a, by rw [List.getElem?_set_ne hij]; exact h1, h2⟩
  inj := fun j k d' e' a h1 h2 h3 h4 => by
    have nj : i ≠ j := fun z => by
      subst z; rw [List.getElem?_set] at h1; simp only [if_true] at h1; split at h1 <;> cases h1
    have nk : i ≠ k := fun z => by
      subst z; rw [List.getElem?_set] at h2; simp only [if_true] at h2; split at h2 <;> cases h2
    rw [List.getElem?_set_ne nj] at h1 h3
    rw [List.getElem?_set_ne nk] at h2 h4
    exact I.inj j k d' e' a h1 h2 h3 h4
  mh := I.mh
  m0 := I.m0
  pin := I.pin
  mp := I.mp
  pnt := I.pnt
  tb := I.tb
theorem SIv.wipe (I : SIv K P w Pn M0 M σ H ρ) : ∀ vs : List Nat, SIv K P w Pn M0 M (L2.wipe σ vs) H (wipeE ρ vs)
  | [] => I
  | v :: vs => (SIv.wipe I vs).wipe1 v
/-- a list that grows unseen (a comprehension's) -/
theorem SIv.hide (I : SIv K P w Pn M0 M σ H ρ) {p : Addr} {H' : Hp} (s : Sm H H') (hp : nn H p) (hp' : ∃ o, H' p = some o ∧ Mut (some o)) : SIv K P w Pn M0 (fun a => M a ∨ a = p) σ H' ρ where
  len := I.len
  val := fun i d e => let ⟨v, a, b⟩ := I.val i d e; ⟨v, a, b.to (fun b o e n _ => s.st b o e n) fun a z => z.elim .inl fun z => .inr (by rw [z]; exact hp)⟩
  own := fun i d e => let ⟨a, h1, h2, h3, h4, h5⟩ := I.own i d e; ⟨a, h1, .inl h2, h3, h4, h5.to (fun b o e n _ => s.st b o e n) (fun a z => z.elim .inl fun z => .inr (by rw [z]; exact hp)) fun o e n => s.st a o e n⟩
  inj := I.inj
  mh := fun a z => by
    rcases z with z | rfl
    · obtain ⟨o, h1, h2⟩ := I.mh a z
      exact ⟨o, s.st a o h1 (nt_mut h2), h2⟩
    · exact hp'
  m0 := fun a z => .inl (I.m0 a z)
  pin := fun a o z => s.st a o (I.pin a o z) (I.pnt a o z)
  mp := fun a z => by
    rcases z with z | rfl
    · exact I.mp a z
    · refine .inr fun o z => ?_
      exact hp _ (I.pin a o z) (I.pnt a o z)
  pnt := I.pnt
  tb := s.tb I.tb
end
end Iv
end

section
/-! IvD: dicts with tuple keys. -/
namespace Iv
open PySem L2 PyProof.Rows
variable [Tb]

section
variable {X : Cx} {pins : List (Addr × Obj)} {σ : L2.St} {s : Shared} {H : Hp} {M : Addr → Prop}
mutual
/-- a datum that may be a key, as it stands in the heap -/
theorem nested_v (I : Inv X pins σ H s) : ∀ {d : PyData} {n : NestedKey} {v : V} {u : Value}, Rp X.K X.prog X.w H M v d → toKey d = some n → RelV v u → NestedIs s.heap n u
  | .int i, n, v, u, r, e, q => by
    rw [toKey] at e; cases e; cases r
    obtain ⟨t, rfl⟩ := q
    exact .int i t
  | .str x, n, v, u, r, e, q => by
    rw [toKey] at e; cases e; cases r
    obtain ⟨t, rfl⟩ := q
    exact .text x t
  | .tuple ds, n, v, u, r, e, q => by
    rw [toKey] at e
    cases z : toKeys ds with
    | none => rw [z] at e; cases e
    | some ks =>
      rw [z] at e; cases e
      cases r with
      | tup h ra =>
        cases q
        obtain ⟨_, its, rv, o, ho, hc, m, hd⟩ := I.hok _ _ h
        exact .tup ho hc hd (by rw [List.toList_toArray]; exact nested_vs I ra z rv)
  | .none, _, _, _, _, e, _ => by rw [toKey] at e <;> first | cases e | simp
  | .bool _, _, _, _, _, e, _ => by rw [toKey] at e <;> first | cases e | simp
  | .list _, _, _, _, _, e, _ => by rw [toKey] at e <;> first | cases e | simp
  | .dict _, _, _, _, _, e, _ => by rw [toKey] at e <;> first | cases e | simp
theorem nested_vs (I : Inv X pins σ H s) : ∀ {ds : List PyData} {ns : List NestedKey} {vs : List V} {us : List Value}, RpA X.K X.prog X.w H M vs ds → toKeys ds = some ns → Vals vs us → NestedAll s.heap ns us
  | [], ns, vs, us, r, e, q => by
    rw [toKeys] at e; cases e; cases r; cases q
    exact .nil
  | d :: ds, ns, vs, us, r, e, q => by
    rw [toKeys] at e
    cases z : toKey d with
    | none => rw [z] at e; cases e
    | some n =>
      cases z2 : toKeys ds with
      | none => rw [z, z2] at e; cases e
      | some m =>
        rw [z, z2] at e; cases e
        cases r with
        | cons r1 r2 =>
          cases q with
          | cons q1 q2 => exact .cons (nested_v I r1 z q1) (nested_vs I r2 z2 q2)
end
theorem keyOk_t {k : PyData} (h : keyOk true k = true) : ∃ ds n, k = .tuple ds ∧ toKey k = some n ∧ n.depth ≤ 8 := by
  unfold keyOk at h
  simp only [if_true, Bool.and_eq_true] at h
  obtain ⟨h1, h2⟩ := h
  cases k with
  | tuple ds =>
    cases e : toKey (.tuple ds) with
    | none => rw [e] at h2; cases h2
    | some n => rw [e] at h2; exact ⟨ds, n, rfl, rfl, of_decide_eq_true h2⟩
  | _ => cases h1
/-- the key's own address -/
theorem key_is (I : Inv X pins σ H s) {k : PyData} {n : NestedKey} {v : V} {u : Value} (h : keyOk true k = true) (e : toKey k = some n) (r : Rp X.K X.prog X.w H M v k) (q : RelV v u) : ∃ b, v = .ref b ∧ u = .ref b ∧ (nestedKind X.prog X.w).is s.heap n b := by
  obtain ⟨ds, n', rfl, e', hd⟩ := keyOk_t h
  rw [e] at e'; cases e'
  have N := nested_v I r e q
  cases r with
  | tup h ra => cases q; exact ⟨_, rfl, rfl, N, hd⟩
theorem RpR.key {k : PyData} {v : V} (h : keyOk true k = true) (r : RpR X.K X.prog X.w H M v k) : Rp X.K X.prog X.w H M v k := by
  obtain ⟨ds, _, rfl, _⟩ := keyOk_t h
  obtain ⟨a, xs, rfl, ha, ra⟩ := RpR.tup r
  exact .tup ha ra
theorem rpt_is (I : Inv X pins σ H s) : ∀ {es : List (NestedKey × Addr × Value)} {kvs : List (PyData × PyData)}, RpT X.K X.prog X.w H M es kvs → ∀ x ∈ es, (nestedKind X.prog X.w).is s.heap x.1 x.2.1
  | _, _, .nil, x, h => by cases h
  | _, _, .cons e k r _ _ t, x, h => by
    rcases List.mem_cons.mp h with rfl | h
    · obtain ⟨b, e1, e2, N⟩ := key_is I k e r (show RelV (.ref _) (.ref _) from rfl)
      cases e1
      exact N
    · exact rpt_is I t x h
theorem dko_is (I : Inv X pins σ H s) {d : Addr} {es : List (NestedKey × Addr × Value)} {kvs : List (PyData × PyData)} (h : H d = some (DkO X.prog X.w d es)) (r : RpT X.K X.prog X.w H M es kvs) :
    s.heap.DictOfH (nestedKind X.prog X.w) d es ∧ (d == sysModules) = false ∧ es.length ≤ sizeLine := by
  obtain ⟨⟨h1, h2, o, en, ep, h3, h4, h5, h6, h7⟩, _⟩ := I.hok _ _ h
  exact ⟨⟨o, en, ep, h3, h4, h5, h6, rpt_is I r, h7⟩, h1, h2⟩
end
/-! ### looking up -/
section
variable {K : PySem.W.Frag} {P : Program} {w : World} {H : Hp} {M : Addr → Prop}
theorem sameKey_of {a k : PyData} {m n : NestedKey} (ha : toKey a = some m) (hk : toKey k = some n) : sameKey a k = decide (m = n) := by
  unfold sameKey; rw [ha, hk]
theorem atKey_cons (x : NestedKey × Addr × Value) (xs : List (NestedKey × Addr × Value)) (k : NestedKey) : atKey (x :: xs) k = if x.1 = k then some x.2 else atKey xs k := by
  unfold atKey
  rw [List.find?_cons]
  by_cases h : x.1 = k
  · rw [if_pos h, decide_eq_true h]; rfl
  · rw [if_neg h, decide_eq_false h]
theorem rpt_get {k : PyData} {n : NestedKey} (hk : toKey k = some n) : ∀ {es : List (NestedKey × Addr × Value)} {kvs : List (PyData × PyData)}, RpT K P w H M es kvs →
    (dget k kvs = none ∧ atKey es n = none) ∨ ∃ d b u v, dget k kvs = some d ∧ atKey es n = some (b, u) ∧ RelV v u ∧ Rp K P w H M v d
  | _, _, .nil => .inl ⟨rfl, rfl⟩
  | _, _, .cons (n := m) (a := a) (u := u) (v := v) (k := k') (d := d) (es := es) (kvs := kvs) e _ _ q r t => by
    rw [dget, atKey_cons, sameKey_of e hk]
    by_cases h : m = n
    · rw [decide_eq_true h, if_pos h]
      exact .inr ⟨d, a, u, v, rfl, rfl, q, r⟩
    · rw [decide_eq_false h, if_neg h]
      exact rpt_get hk t
theorem putAt_no {n : NestedKey} {u : Value} : ∀ {es : List (NestedKey × Addr × Value)}, n ∉ es.map (·.1) → es.map (putAt n u) = es
  | [], _ => rfl
  | x :: es, h => by
    rw [List.map_cons] at h ⊢
    have h1 : x.1 ≠ n := fun e => h (by rw [e]; exact .head _)
    rw [putAt_no fun z => h (.tail _ z)]
    unfold putAt
    rw [if_neg h1]
theorem storedH_cons (x : NestedKey × Addr × Value) (es : List (NestedKey × Addr × Value)) (n : NestedKey) (b : Addr) (u : Value) (hn : ((x :: es).map (·.1)).Nodup) : storedH (x :: es) n b u = if x.1 = n then (x.1, x.2.1, u) :: es else x :: storedH es n b u := by
  unfold storedH
  rw [atKey_cons]
  by_cases h : x.1 = n
  · rw [if_pos h, if_pos h, if_pos (by rfl), List.map_cons]
    rw [List.map_cons, List.nodup_cons] at hn
    rw [putAt_no (by rw [← h]; exact hn.1)]
    unfold putAt
    rw [if_pos h]
  · rw [if_neg h, if_neg h]
    split
    · rw [List.map_cons]
      unfold putAt
      rw [if_neg h]
    · rfl
theorem rpt_put {k d : PyData} {n : NestedKey} {b : Addr} {u : Value} {v : V} (hk : toKey k = some n) (ok : keyOk true k = true) (rk : Rp K P w H M (.ref b) k) (q : RelV v u) (r : Rp K P w H M v d) :
    ∀ {es : List (NestedKey × Addr × Value)} {kvs : List (PyData × PyData)}, (es.map (·.1)).Nodup → RpT K P w H M es kvs → RpT K P w H M (storedH es n b u) (dput k d kvs)
  | [], [], _, .nil => .cons hk ok rk q r .nil
  | (m, a, u') :: es, (k', d') :: kvs, hn, .cons e o rk' q' r' t => by
    rw [storedH_cons _ _ _ _ _ hn, dput, sameKey_of e hk]
    by_cases h : m = n
    · rw [decide_eq_true h, if_pos h]
      exact .cons e o rk' q r t
    · rw [decide_eq_false h, if_neg h]
      rw [List.map_cons, List.nodup_cons] at hn
      exact .cons e o rk' q' r' (rpt_put hk ok rk q r hn.2 t)
theorem rpt_len : ∀ {es : List (NestedKey × Addr × Value)} {kvs : List (PyData × PyData)}, RpT K P w H M es kvs → es.length = kvs.length
  | _, _, .nil => rfl
  | _, _, .cons _ _ _ _ _ t => by rw [List.length_cons, List.length_cons, rpt_len t]
end
theorem dko_stay {P : Program} {w : World} {a : Addr} {es : List (NestedKey × Addr × Value)} {h1 h2 : Heap}
    (z : (a == sysModules) = false ∧ es.length ≤ sizeLine ∧ ∃ o en ep, h1.get? a = some o ∧ o.ExactDict ∧ o.data = .dict en ep ∧ en.toList = es.map (entryOfKey (nestedKind P w)) ∧ (es.map (·.1)).Nodup)
    (k : ∀ o, h1.get? a = some o → h2.get? a = some o) : (a == sysModules) = false ∧ es.length ≤ sizeLine ∧ ∃ o en ep, h2.get? a = some o ∧ o.ExactDict ∧ o.data = .dict en ep ∧ en.toList = es.map (entryOfKey (nestedKind P w)) ∧ (es.map (·.1)).Nodup := by
  obtain ⟨h1, h2, o, en, ep, h3, h4⟩ := z
  exact ⟨h1, h2, o, en, ep, k _ h3, h4⟩
theorem dko_ok {P : Program} {w : World} {H : Hp} {h : Heap} {a : Addr} {es : List (NestedKey × Addr × Value)} {o : Obj} {en : Array DictEntry} {ep : Nat} (ha : (a == sysModules) = false) (hl : es.length ≤ sizeLine)
    (ho : h.get? a = some o) (hx : o.ExactDict) (hd : o.data = .dict en ep) (he : en.toList = es.map (entryOfKey (nestedKind P w))) (hn : (es.map (·.1)).Nodup) : ObjOk P w H h a (DkO P w a es) :=
  ⟨⟨ha, hl, o, en, ep, ho, hx, hd, he, hn⟩, ⟨o, ho⟩, fun _ _ z k => dko_stay z k⟩
section
variable {X : Cx} {pos : Pos}
def tDNewT (P : Program) (w : World) : TE := fun _ H Q => ∀ p, H p = none → Q (.ref p) (upd H p (DkO P w p []))
theorem pe_dnewT : PE X (.Dict [] [] pos) (tDNewT X.prog X.w) := ⟨fun pins s σ H Q I h =>
  wpAny_Dict_empty ⟨.ref s.heap.objs.size, _, I.laid (a := s.heap.objs.size) (o := DkO X.prog X.w s.heap.objs.size []) (t' := s.toks) (fun _ _ q => Heap.get?_push_of_some _ q) (Nat.le_refl _)
    (dko_ok (beq_eq_false_iff_ne.mpr (Ne.symm (Nat.ne_of_lt I.big))) (Nat.zero_le _) (Heap.get?_push_size _ rfl) ⟨rfl, rfl, rfl⟩ rfl rfl List.nodup_nil), rfl, h _ (I.hok.fresh (Nat.le_refl _))⟩⟩
/-- d[k] = v, a dict with tuple keys -/
def rSetT (K : PySem.W.Frag) (P : Program) (w : World) : TSet := fun o i v H Q => ∃ M a es kvs kd n b, o = .ref a ∧ i = .ref b ∧ H a = some (DkO P w a es) ∧ RpT K P w H M es kvs ∧ toKey kd = some n ∧ keyOk true kd = true ∧ Rp K P w H M (.ref b) kd ∧ es.length < sizeLine ∧
  ∀ u, RelV v u → (es.map (·.1)).Nodup → Q (upd H a (DkO P w a (storedH es n b u)))
theorem storedH_len (es : List (NestedKey × Addr × Value)) (n : NestedKey) (b : Addr) (u : Value) : (storedH es n b u).length ≤ es.length + 1 := by
  unfold storedH
  split
  · rw [List.length_map]; omega
  · rw [List.length_append]; exact Nat.le_refl _
theorem set_T (hu : X.A.units + 80 < cLine) : PSet X (rSetT X.K X.prog X.w) := by
  rintro pins s σ H o i v ov iv u Q I ro ri rv ⟨M, a, es, kvs, kd, n, b, rfl, rfl, ha, rt, hk, ok, rk, hl, q⟩
  cases ro
  obtain ⟨b', e1, e2, N⟩ := key_is I ok hk rk ri
  cases e1; cases e2
  obtain ⟨D, hd, hl0⟩ := dko_is I ha rt
  obtain ⟨_, _, _, _, _, _, _, _, nd⟩ := D
  have D := (dko_is I ha rt).1
  refine wpAny_setItem_heap (hsz := hl0) (show X.A.in1.units + 8 < cLine by show X.A.units + 1 + 8 < _; omega) N D fun h' dd hs => ?_
  obtain ⟨z, en, ep, hq, h2, h3, h4, _, h5⟩ := dd
  have hl' := storedH_len es n b u
  exact ⟨_, I.write (x := a) (e := a) (by rw [ha]; trivial) (.inl rfl) (fun c y hb z => (hs.2 c hb).trans z) ⟨z, hq⟩ (dko_ok hd (by omega) hq h2 h3 h4 h5), q u rv nd⟩
end

theorem own_keep {H : Hp} {M : Addr → Prop} {a : Addr} {oa o' : HO} (ha : H a = some oa) (mu : Mut (some oa)) (m : M a) : ∀ b o, H b = some o → nt o → (¬ M b ∨ isFix o) → upd H a o' b = some o := fun b o e _ z => by
  by_cases hb : b = a
  · subst hb
    rcases z with z | z
    · exact (z m).elim
    · rw [ha] at e; cases e
      cases oa <;> first | exact z.elim | exact mu.elim
  · rw [upd_ne hb]; exact e
theorem RpT.sm {K : PySem.W.Frag} {P : Program} {w : World} {H H' : Hp} {M : Addr → Prop} (s : Sm H H') {es : List (NestedKey × Addr × Value)} {kvs : List (PyData × PyData)} (h : RpT K P w H M es kvs) : RpT K P w H' M es kvs := RpT.to (fun b o e n _ => s.st b o e n) (fun _ z => .inl z) h
theorem RpK.sm {K : PySem.W.Frag} {P : Program} {w : World} {H H' : Hp} {M : Addr → Prop} (s : Sm H H') {es : List (Key × V)} {kvs : List (PyData × PyData)} (h : RpK K P w H M es kvs) : RpK K P w H' M es kvs := RpK.to (fun b o e n _ => s.st b o e n) (fun _ z => .inl z) h
/-! ### flat keys -/
theorem sameKey_D (a b : Key) : sameKey (keyD a) (keyD b) = decide (a = b) := by
  cases a <;> cases b <;> (unfold sameKey keyD; simp [toKey])
theorem keyOk_f {k : PyData} (h : keyOk false k = true) : ∃ q, k = keyD q := by
  unfold keyOk at h
  simp only [Bool.false_eq_true, if_false] at h
  cases k with
  | int i => exact ⟨.inl i, rfl⟩
  | str x => exact ⟨.inr x, rfl⟩
  | _ => cases h
section
variable {K : PySem.W.Frag} {P : Program} {w : World} {H : Hp} {M : Addr → Prop}
theorem RpR.keyD {q : Key} {v : V} (r : RpR K P w H M v (keyD q)) : v = kV q := by
  cases q with
  | inl i => exact r.int
  | inr x => exact r.str
theorem rpk_get (k : Key) : ∀ {es : List (Key × V)} {kvs : List (PyData × PyData)}, RpK K P w H M es kvs →
    (dget (Iv.keyD k) kvs = none ∧ valV es k = none) ∨ ∃ d v, dget (Iv.keyD k) kvs = some d ∧ valV es k = some v ∧ Rp K P w H M v d
  | _, _, .nil => .inl ⟨rfl, rfl⟩
  | _, _, .cons (k := m) (v := v) (d := d) r t => by
    rw [dget, sameKey_D]
    by_cases h : m = k
    · rw [decide_eq_true h, valV_pos (p := (m, v)) h]
      exact .inr ⟨d, v, rfl, rfl, r⟩
    · rw [decide_eq_false h, valV_neg (p := (m, v)) h]
      exact rpk_get k t
theorem putK_no {k : Key} {v : V} : ∀ {es : List (Key × V)}, k ∉ es.map (·.1) → es.map (fun kv => if kv.1 = k then (kv.1, v) else kv) = es
  | [], _ => rfl
  | x :: es, h => by
    rw [List.map_cons] at h ⊢
    have h1 : x.1 ≠ k := fun e => h (by rw [e]; exact .head _)
    rw [putK_no fun z => h (.tail _ z), if_neg h1]
theorem putK_cons (x : Key × V) (es : List (Key × V)) (k : Key) (v : V) (hn : ((x :: es).map (·.1)).Nodup) : putK (x :: es) k v = if x.1 = k then (x.1, v) :: es else x :: putK es k v := by
  unfold putK
  rw [List.any_cons]
  by_cases h : x.1 = k
  · rw [decide_eq_true h, if_pos h, Bool.true_or, if_pos rfl, List.map_cons, if_pos h]
    rw [List.map_cons, List.nodup_cons] at hn
    rw [putK_no (by rw [← h]; exact hn.1)]
  · rw [decide_eq_false h, if_neg h, Bool.false_or]
    split
    · rw [List.map_cons, if_neg h]
    · rfl
theorem rpk_put {k : Key} {d : PyData} {v : V} (r : Rp K P w H M v d) : ∀ {es : List (Key × V)} {kvs : List (PyData × PyData)}, (es.map (·.1)).Nodup → RpK K P w H M es kvs → RpK K P w H M (putK es k v) (dput (Iv.keyD k) d kvs)
  | [], _, _, .nil => .cons r .nil
  | (m, u) :: es, _ :: kvs, hn, .cons r' t => by
    rw [putK_cons _ _ _ _ hn, dput, sameKey_D]
    by_cases h : m = k
    · rw [decide_eq_true h, if_pos h]
      exact .cons r t
    · rw [decide_eq_false h, if_neg h]
      rw [List.map_cons, List.nodup_cons] at hn
      exact .cons r' (rpk_put r hn.2 t)
theorem rpk_len : ∀ {es : List (Key × V)} {kvs : List (PyData × PyData)}, RpK K P w H M es kvs → es.length = kvs.length
  | _, _, .nil => rfl
  | _, _, .cons _ t => by rw [List.length_cons, List.length_cons, rpk_len t]
theorem KV.keys : ∀ {es : List (Key × V)} {vs : List (Key × Value)}, KV es vs → es.map (·.1) = vs.map (·.1) := by
  intro es vs h
  unfold KV at h
  induction h with
  | nil => rfl
  | cons h t ih => rw [List.map_cons, List.map_cons, ih, h.1]
end
section
variable {X : Cx} {pins : List (Addr × Obj)} {σ : L2.St} {s : Shared} {H : Hp} {M : Addr → Prop}
theorem dk_nodup {a : Addr} {es : List (Key × V)} (I : Inv X pins σ H s) (h : H a = some (.dK es)) : (es.map (·.1)).Nodup := by
  obtain ⟨_, _, vs, rel, dd⟩ := dk_of I.hok h
  obtain ⟨_, _, _, _, _, _, _, nd⟩ := dd
  rw [KV.keys rel]
  exact nd.2
/-! ### d[k] -/
theorem ix_T (hu : X.A.units + 9 < cLine) : IxR X (fun x y H Q => ∃ M kvs kd d, RpR X.K X.prog X.w H M x (dictT kvs) ∧ RpR X.K X.prog X.w H M y kd ∧ keyOk true kd = true ∧ dget kd kvs = some d ∧ ∀ v, Rp X.K X.prog X.w H M v d → Q v H) := by
  rintro value slice pins s σ H x y v u Q I rv ru ⟨M, kvs, kd, d, hx, hy, ok, hg, k⟩ hs
  obtain ⟨a, es, rfl, ha, rt⟩ := RpR.dT hx
  obtain ⟨ds, n, rfl, hk, _⟩ := keyOk_t ok
  obtain ⟨b, rfl, rfl, N⟩ := key_is I ok hk (RpR.key ok hy) ru
  obtain ⟨D, hd, _⟩ := dko_is I ha rt
  cases rv
  rcases rpt_get hk rt with ⟨q1, _⟩ | ⟨d', b', u', v', q1, q2, q3, q4⟩
  · rw [q1] at hg; cases hg
  · rw [q1] at hg; cases hg
    exact tail_any D.typeIs PySem.F.slot_dict_getitem.lookup (wpAny_getItem_heap (show X.A.in1.units + 8 < cLine by show X.A.units + 1 + 8 < _; omega) N D q2 ⟨v', H, I.tok _, q3, k _ q4⟩) hs
theorem ix_K (hu : X.A.units + 9 < cLine) : IxR X (fun x y H Q => ∃ M kvs kd d, RpR X.K X.prog X.w H M x (dictK kvs) ∧ RpR X.K X.prog X.w H M y kd ∧ keyOk false kd = true ∧ dget kd kvs = some d ∧ ∀ v, Rp X.K X.prog X.w H M v d → Q v H) := by
  rintro value slice pins s σ H x y v u Q I rv ru ⟨M, kvs, kd, d, hx, hy, ok, hg, k⟩ hs
  obtain ⟨a, es, rfl, ha, rt⟩ := RpR.dK hx
  obtain ⟨q, rfl⟩ := keyOk_f ok
  obtain rfl := RpR.keyD hy
  cases rv
  rcases rpk_get q rt with ⟨q1, _⟩ | ⟨d', v', q1, q2, q4⟩
  · rw [q1] at hg; cases hg
  · rw [q1] at hg; cases hg
    have g : DGet H a (kV q) (some v') := by have := DGet.k (k := q) ha; rwa [q2] at this
    exact tail_any (dict_typeIs I g) PySem.F.slot_dict_getitem.lookup (d_getItem (by show X.A.units + 1 < cLine; omega) I g ru fun w' s3 I3 rw' => ⟨v', H, I3, rw', k _ q4⟩) hs
end
/-! ### a display of one pair -/
section
variable {X : Cx} {pos : Pos} {k v : Expr} {tk tv : TE}
def tD1 (K : PySem.W.Frag) (P : Program) (w : World) (tk tv : TE) : TE := fun σ H Q => ∀ p, H p = none → tk σ (upd H p (DkO P w p [])) fun x H1 => tv σ H1 fun y H2 => rSetT K P w (.ref p) x y H2 fun H3 => Q (.ref p) H3
theorem pe_d1 (hu : X.A.units + 80 < cLine) (hk : PE X k tk) (hv : PE X v tv) : PE X (.Dict [some k] [v] pos) (tD1 X.K X.prog X.w tk tv) := by
  refine ⟨fun pins s σ H Q I h => ?_⟩
  have I1 := I.laid (a := s.heap.objs.size) (o := DkO X.prog X.w s.heap.objs.size []) (h' := s.heap.push { cls := .type "dict", data := .dict #[] }) (t' := s.toks) (fun _ _ q => Heap.get?_push_of_some _ q) (Nat.le_refl _)
    (dko_ok (beq_eq_false_iff_ne.mpr (Ne.symm (Nat.ne_of_lt I.big))) (Nat.zero_le _) (Heap.get?_push_size _ rfl) ⟨rfl, rfl, rfl⟩ rfl rfl List.nodup_nil)
  refine wpAny_Dict_any rfl rfl (by simp) (by show 1 ≤ 15; decide) (pairTrees_cons_walk (thn (hk.run pins _ σ _ _ I1 (h _ (I.hok.fresh (Nat.le_refl _)))) fun kv s1 ⟨x, H1, I1, rx, q1⟩ => thn (hv.run pins s1 σ H1 _ I1 q1) fun vv s2 ⟨y, H2, I2, ry, q2⟩ => pairTrees_nil_walk ?_))
  obtain ⟨M, a, es, kvs, kd, n, b, e1, rfl, ha, rt, hk', ok, rk, hl, q⟩ := q2
  cases e1
  obtain ⟨b', e1, e2, N⟩ := key_is I2 ok hk' rk rx
  cases e1; cases e2
  obtain ⟨D, hd, hl0⟩ := dko_is I2 ha rt
  obtain ⟨_, _, _, _, _, _, _, _, nd⟩ := D
  have D := (dko_is I2 ha rt).1
  unfold storeAll
  rw [List.forIn_cons]
  refine wpAny_bind (wpAny_bind (wpAny_dictSet_heap (hsz := hl0) (show X.A.units + 8 < cLine by omega) N D fun h' dd hs => wpAny_pure ?_))
  dsimp only
  rw [List.forIn_nil]
  refine wpAny_pure ?_
  obtain ⟨z, en, ep, hq, h2, h3, h4, _, h5⟩ := dd
  have hl' := storedH_len es n b vv
  exact ⟨.ref s.heap.objs.size, _, I2.write (x := s.heap.objs.size) (e := s.heap.objs.size) (by rw [ha]; trivial) (.inl rfl) (fun c y hb z => (hs.2 c hb).trans z) ⟨z, hq⟩ (dko_ok hd (Nat.le_trans (storedH_len es n b vv) hl) hq h2 h3 h4 h5), rfl, q vv ry nd⟩
end
end Iv
end

section
/-! IvK: sorted(range(n), key=lambda one: ..): the sort's machine over the layer; the lambda made, and called. -/
namespace Iv
open PySem L2 PyProof.Rows PySem.W PySem.Calls
variable [Tb]

/-! ### the loop that asks for the keys, and the sort behind it -/
section
variable {X : Cx} {pins : List (Addr × Obj)} {σ : L2.St} {H : Hp} {s : Shared}
/-- a call of the key, wherever the state has come to meanwhile -/
def KeyCall (X : Cx) (pins : List (Addr × Obj)) (σ : L2.St) (H : Hp) (A : Around) (f : Value) (n : Nat) (key : Nat → Int) : Prop :=
  ∀ (pins' : List (Addr × Obj)) (j : Nat) (u : Value) (s' : Shared) (H' : Hp) (E' : Value → Shared → Prop), (∀ p ∈ pins, p ∈ pins') → j < n → L2.RelV (.int (j : Nat)) u → Inv X pins' σ H' s' → Sm H H' →
    wpAny (model X.prog X.w) A (call f [u]) (fun v s'' => ∃ H'', Inv X pins' σ H'' s'' ∧ Sm H' H'' ∧ ∃ t, v = .int (key j) t) E' s'

theorem vals_at : ∀ {xs : List V} {us : List Value} {i : Nat} {u : Value}, Vals xs us → us[i]? = some u → ∃ x, xs[i]? = some x ∧ L2.RelV x u
  | _, _, _, _, .nil, e => by simp at e
  | _, _, 0, _, .cons h _, e => by simp at e; subst e; exact ⟨_, rfl, h⟩
  | _, _, i + 1, u, .cons _ r, e => by
    obtain ⟨x, h1, h2⟩ := vals_at (i := i) (u := u) r (by simpa using e)
    exact ⟨x, by simpa using h1, h2⟩
theorem each_vals : ∀ {l : List Nat} {vs : List Value}, Vals (l.map fun i => V.int (i : Nat)) vs → EachIs (fun (v : Value) (i : Nat) => L2.RelV (.int (i : Nat)) v) vs l
  | [], _, h => by cases h; exact .nil
  | _ :: _, _, h => by cases h with | cons a r => exact .cons a (each_vals r)
theorem vals_each : ∀ {l : List Nat} {vs : List Value}, EachIs (fun (v : Value) (i : Nat) => L2.RelV (.int (i : Nat)) v) vs l → Vals (l.map fun i => V.int (i : Nat)) vs
  | _, _, .nil => .nil
  | _, _, .cons a r => .cons a (vals_each r)
theorem fp_pin {o : Obj} {a : Addr} (I : Inv X pins σ H s) (f : FpOk X pins H a) (ho : s.heap.get? a = some o) (hd : ∀ v, o.data ≠ .cell v) : Inv X ((a, o) :: pins) σ H s := by
  refine I.pins_of fun p hp => ?_
  rcases List.mem_cons.mp hp with e | hp
  · subst e
    exact ⟨ho, f.1, f.2.1, f.2.2.1, hd⟩
  · exact I.pin p (List.mem_append_right _ hp)

theorem keys_rest {A : Around} {f : Value} {n : Nat} {key : Nat → Int} {a kS : Addr} {e1 : Nat} {vs : List Value} {E : Value → Shared → Prop} {Q : PySem.Fin → Shared → Prop} (I : Inv X pins σ H s)
    (hC : KeyCall X pins σ H A f n key) (fa : FpOk X pins H a) (fk : FpOk X pins H kS) (hka : kS ≠ a) (na : s.heap.get? a = some (seqObj "list" #[] e1)) (nk : s.heap.get? kS = some (seqObj "list" #[] 0))
    (hvs : Vals ((List.range n).map fun i => V.int (i : Nat)) vs) (hn : n < 1000000) (hu : A.units + 1 < cLine)
    (k : ∀ (H' : Hp) (s' : Shared) (c : Nat) (out : List Value), Inv X pins σ H' s' → Sm H H' → H' a = none → Vals (((List.range n).mergeSort (dataLe false fun i => .int (key i))).map fun i => V.int (i : Nat)) out →
      s'.heap.get? a = some (seqObj "list" out.toArray c) → FpOk X pins H' a → Q (.done (.ret .none)) s') :
    wpAny (model X.prog X.w) A (ksk_rest a f false vs.toArray e1 (.ref kS)) Q E s := by
  have hlen : vs.length = n := by rw [← hvs.length, List.length_map, List.length_range]
  have kz : ∀ i, i ≤ n → ((List.range n).map fun i => PyData.int (key i)).take i = (List.range i).map fun i => PyData.int (key i) := fun i hi => by
    rw [← List.map_take, List.take_range, Nat.min_eq_left hi]
  unfold ksk_rest
  refine wpAny_bind (wpAny_rule ?_)
  first
    | rw [List.forIn_toArray]
    | (rw [← Array.forIn_toList]; simp only [List.toList_toArray])
    | rw [← Array.forIn_toList]
  refine wpAny_bind (ksk_fold (fun i s' => ∃ H' kA e, Inv X pins σ H' s' ∧ Sm H H' ∧ H' a = none ∧ H' kS = none ∧ s'.heap.get? kS = some (seqObj "list" kA e) ∧ s'.heap.get? a = some (seqObj "list" #[] e1) ∧
      EachIs (fun v (d : PyData) => ∃ j t, v = .int j t ∧ d = .int j) kA.toList ((List.range i).map fun i => PyData.int (key i))) vs 0 s
    ⟨H, #[], 0, I, Sm.refl H, fa.1, fk.1, nk, na, .nil⟩ (fun j x s' hx hI => ?_) fun s' hI => ?_)
  · obtain ⟨H', kA, e, I', sm, ha, hk, nk', na', hE⟩ := hI
    rw [Nat.zero_add] at hE
    have hj : j < n := by rw [← hlen]; exact (List.getElem?_eq_some_iff.mp hx).1
    obtain ⟨y, hy, ry⟩ := vals_at hvs hx
    rw [List.getElem?_map, List.getElem?_range hj] at hy
    cases hy
    have fa' : FpOk X pins H' a := ⟨ha, fa.2⟩
    have fk' : FpOk X pins H' kS := ⟨hk, fk.2⟩
    have J1 : Inv X ((a, seqObj "list" #[] e1) :: pins) σ H' s' := fp_pin I' fa' na' fun v z => nomatch z
    have J2 : Inv X ((kS, seqObj "list" kA e) :: (a, seqObj "list" #[] e1) :: pins) σ H' s' := fp_pin J1 ⟨hk, fk.2.1, fk.2.2.1, fk.2.2.2.1, fk.2.2.2.2.1, fun p hp => by
      rcases List.mem_append.mp hp with z | z
      · exact fk.2.2.2.2.2 p (List.mem_append_left _ z)
      · rcases List.mem_cons.mp z with z | z
        · subst z; exact Ne.symm hka
        · exact fk.2.2.2.2.2 p (List.mem_append_right _ z)⟩ nk' fun v z => nomatch z
    refine wpAny_bind (wpAny_attempt (wpAny_mono (hC _ j x s' H' _ (fun p hp => .tail _ (.tail _ hp)) hj ry J2 sm) (fun v s2 he => ?_) fun _ _ hF => hF))
    obtain ⟨H2, I2, s2m, t, rfl⟩ := he
    obtain ⟨g1, g2, g3, g4, _⟩ := I2.pin (kS, seqObj "list" kA e) (List.mem_append_right _ (.head _))
    obtain ⟨g5, g6, g7, g8, _⟩ := I2.pin (a, seqObj "list" #[] e1) (List.mem_append_right _ (.tail _ (.head _)))
    have I3 : Inv X pins σ H2 s2 := I2.pins_of fun p hp => I2.pin p (List.mem_append_right _ (.tail _ (.tail _ hp)))
    have hsz : kA.size = j := by
      have h1 := hE.length
      rw [Array.length_toList, List.length_map, List.length_range] at h1
      exact h1
    have s1 := Heap.SameBut.update s2.heap kS (Obj.mapSeq (·.push (.int (key j) t)))
    have hc2 := get?_update_seq g1 (·.push (.int (key j) t))
    try dsimp only
    have line : n < sizeLine := by rw [sizeLine_eq]; omega
    refine wpAny_bind (listUpdate_at g1 rfl ?_ (by omega) (by rw [Array.size_push]; omega))
    refine wpAny_pure ⟨rfl, H2, kA.push (.int (key j) t), _, I3.turned (it := kS) (t' := s2.toks) (fun b o hb e => (s1.2 b hb).trans e) g2 fk.2.1 fk.2.2.2.1 fk.2.2.2.2.1 fk.2.2.2.2.2, sm.trans s2m, g6, g2, hc2, (s1.2 a hka.symm).trans g5, ?_⟩
    rw [Nat.zero_add, List.range_succ, List.map_append, Array.toList_push]
    exact each_snoc ⟨_, _, rfl, rfl⟩ hE
  · obtain ⟨H', kA, e, I', sm, ha, hk, nk', na', hE⟩ := hI
    rw [Nat.zero_add, hlen] at hE
    try dsimp only
    refine wpAny_bind (listItems_at nk' rfl ?_)
    have hsz : kA.size = vs.length := by
      have h1 := hE.length
      rw [Array.length_toList, List.length_map, List.length_range] at h1
      rw [h1, hlen]
    have hR : EachIs (fun v k => ∃ as, Reads s'.heap v k as) kA.toList ((List.range n).map fun i => PyData.int (key i)) := hE.mono fun v d q => by
      obtain ⟨j, t, rfl, rfl⟩ := q
      exact ⟨[], .int _ _⟩
    have hal : AllAlike ((List.range n).map fun i => PyData.int (key i)) := AllAlike.of fun _ _ => by simp [alike]
    have hsk : Sortable ((List.range n).map fun i => PyData.int (key i)) := Sortable.others fun _ => ⟨(fun z => nomatch z), fun _ z => nomatch z⟩
    have hd : ∀ d, d ∈ ((List.range n).map fun i => PyData.int (key i)) → A.units + d.depth < cLine := fun d hd => by
      obtain ⟨i, _, rfl⟩ := List.mem_map.mp hd
      simp only [PyData.depth]
      omega
    have line : vs.length ≤ sizeLine := by rw [hlen, sizeLine_eq]; omega
    refine keyH_end (κ := dataKind s'.heap ((List.range n).map fun i => PyData.int (key i))) (h₁ := PySem.W.hideAll s'.heap [kS]) (fun b o hb q => PySem.W.of_hideAll _ q) (PySem.W.hideAll_none _ (.head _)) nk' na' hka
      (SortsAt.data hR hal hsk hd) hsz line fun h3 tk3 c k3 n3 => ?_
    have kp : ∀ b o, b ∉ [a, kS] → s'.heap.get? b = some o → h3.get? b = some o := fun b o hb q => k3 b o (fun z => hb (by simp [z])) (PySem.W.hideAll_get _ q (fun z => hb (by simp at z; simp [z])))
    refine k H' _ c _ (I'.turnedL (t' := tk3) kp fun b hb => ?_) sm ha ?_ n3 ⟨ha, fa.2⟩
    · rcases List.mem_cons.mp hb with e | hb
      · subst e; exact ⟨ha, fa.2⟩
      · rw [List.mem_singleton.mp hb]; exact ⟨hk, fk.2⟩
    · have ko : KeyedOut false ((List.range n).map fun i => PyData.int (key i)) vs (sortVals (dataKind s'.heap ((List.range n).map fun i => PyData.int (key i))) false kA.toList vs) := ⟨_, _, hal, rfl, hR⟩
      have e0 : EachIs (fun (v : Value) (i : Nat) => L2.RelV (.int (i : Nat)) v) vs (List.range n) := each_vals hvs
      exact vals_each (keyedOut_each (fun i => PyData.int (key i)) ko e0)

theorem sorted_range {r fa : Addr} {n : Nat} {key : Nat → Int} {t u v : Tok} {Q : VK} (I : Inv X pins σ H s) (hc : X.calm = true) (hr : IsRange s.heap r 0 (n : Int) 1 t u v) (hn : n < 1000000) (hu : X.A.units + 10 < cLine)
    (hC : KeyCall X pins σ H X.A.in1.in1 (.ref fa) n key)
    (k : ∀ (H' : Hp) (p : Addr), Sm H H' → H' p = none → Q (.ref p) (upd H' p (.lst (((List.range n).mergeSort (dataLe false fun i => .int (key i))).map fun i => V.int (i : Nat))))) :
    wpAny (model X.prog X.w) X.A (call (.builtin "sorted") [.ref r] [(Str.ofString "key", .ref fa)]) (EP X pins σ Q) X.xe s := by
  have hd := I.ok.hd hc
  have line : n < sizeLine := by rw [sizeLine_eq]; omega
  refine call_function_entry_kw kind_sorted plain_sorted entry_sorted (ksk_s1 _ _) ?_
  unfold Builtin.«sorted»
  refine wpAny_bind (m := checkCount "sorted" 1 1 _) (wpAny_pure ?_)
  refine wpAny_bind (collect_range (n := n) (A := X.A.in1) hd hr (small_one (by omega) (by omega) (by omega) (by omega)) (by rw [rangeSize_nat]; omega) (by omega) fun h1 tk acc k1 hi => ?_)
  have hv : Vals (rgV 0 (n : Int)) acc.toList := vals_rg (by rw [show ((n : Int) - 0).toNat = n by omega]; exact hi)
  have hv' : Vals ((List.range n).map fun i => V.int (i : Nat)) acc.toList := by
    have e : rgV 0 (n : Int) = (List.range n).map fun i => V.int (i : Nat) := by
      unfold rgV
      rw [show ((n : Int) - 0).toNat = n by omega]
      exact List.map_congr_left fun i _ => by rw [Int.zero_add]
    rw [← e]; exact hv
  have hl : acc.toList.length = n := by rw [← hv'.length, List.length_map, List.length_range]
  have I1 : Inv X pins σ H { s with heap := h1, toks := tk } := I.kept k1
  refine wpAny_bind (wpAny_newList ?_ (by omega))
  have gA : (h1.push (seqObj "list" acc.toList.toArray 0)).get? h1.objs.size = some (seqObj "list" acc.toList.toArray 0) := Heap.get?_push_size _ rfl
  refine wpAny_bind (wpAny_holding (wpAny_call_entry_kw slot_list_sort ⟨_, gA, rfl⟩ entry_list_sort ?_ (ksk_l1 _ _)))
  rw [ksk_t1]
  have hA : H h1.objs.size = none := I1.hok.fresh (Nat.le_refl _)
  have fA : FpOk X pins H h1.objs.size := I1.fpOk (Nat.le_refl _) hA
  obtain ⟨e1, ho1⟩ : ∃ e1, ((h1.push (seqObj "list" acc.toList.toArray 0)).update h1.objs.size (Obj.mapSeq fun _ => (#[] : Array Value))).get? h1.objs.size = some (seqObj "list" #[] e1) := ⟨_, get?_update_seq gA fun _ => #[]⟩
  unfold ksk_tree
  refine wpAny_bind (listItems_at gA rfl ?_)
  refine wpAny_bind (listUpdate_at gA rfl ?_ (by rw [List.size_toArray]; omega) (Nat.zero_le _))
  refine wpAny_bind (seqEpoch_at ho1 rfl ?_)
  refine wpAny_bind (wpAny_newTuple ?_ (by show acc.toList.length ≤ _; omega))
  refine wpAny_bind (wpAny_newList ?_ (Nat.zero_le _))
  refine wpAny_holding ?_
  generalize hg : (h1.push (seqObj "list" acc.toList.toArray 0)).update h1.objs.size (Obj.mapSeq fun _ => (#[] : Array Value)) = g1 at ho1 ⊢
  have zg : g1.objs.size = h1.objs.size + 1 := by rw [← hg, Heap.size_update, size_push']
  have kg : ∀ b o, h1.get? b = some o → g1.get? b = some o := fun b o e => by
    rw [← hg]
    exact (Heap.SameBut.update _ _ _).2 b (Nat.ne_of_lt (Heap.lt_size e)) |>.trans (Heap.get?_push_of_some _ e)
  have k2 : ∀ b o, g1.get? b = some o → ((g1.push (seqObj "tuple" acc.toList.toArray 0)).push (seqObj "list" #[] 0)).get? b = some o := fun b o e => Heap.get?_push_of_some _ (Heap.get?_push_of_some _ e)
  have z2 : (g1.push (seqObj "tuple" acc.toList.toArray 0)).objs.size = h1.objs.size + 2 := by rw [size_push', zg]
  have I2 : Inv X pins σ H { s with heap := (g1.push (seqObj "tuple" acc.toList.toArray 0)).push (seqObj "list" #[] 0), toks := tk } := I1.kept fun b o e => k2 b o (kg b o e)
  have hK : H (g1.push (seqObj "tuple" acc.toList.toArray 0)).objs.size = none := I1.hok.fresh (by show h1.objs.size ≤ _; omega)
  have fK : FpOk X pins H (g1.push (seqObj "tuple" acc.toList.toArray 0)).objs.size := I1.fpOk (by show h1.objs.size ≤ _; omega) hK
  refine keys_rest (s := { s with heap := (g1.push (seqObj "tuple" acc.toList.toArray 0)).push (seqObj "list" #[] 0), toks := tk }) (n := n) (key := key) I2 hC fA fK (Nat.ne_of_gt (by rw [z2]; exact Nat.lt_add_of_pos_right (by decide))) (k2 _ _ ho1) (Heap.get?_push_size _ rfl) hv' hn (by show X.A.units + 1 + 1 + 1 < _; omega) fun H' s' c out I' sm ha ro ns fa' => ?_
  refine ⟨_, rfl, wpAny_pure ⟨_, rfl, .ref h1.objs.size, upd H' h1.objs.size (.lst _), I'.take (h' := s'.heap) (t' := s'.toks) (fun b o _ e => e) fa' ⟨?_, out, c, ro, ns⟩, rfl, k H' _ sm ha⟩⟩
  rw [List.length_map, List.length_mergeSort, List.length_range]
  omega
end

/-! ### a lambda with one parameter -/
structure LamP (sc scope : Scope) (p : Str) : Prop where
  kind : scope.kind = .function
  co : scope.isCoroutine = false
  gen : scope.isGenerator = false
  par : scope.names.lookup p = some .local
  cel : ∀ y ∈ scope.names, y.2 ≠ .cell
  loc : ∀ y ∈ scope.names, y.2 = .local → y.1 = p
  fre : ∀ y ∈ scope.names, y.2 = .free → sc.names.lookup y.1 = some .cell ∨ sc.names.lookup y.1 = some .free
def lamPB (sc scope : Scope) (p : Str) : Bool :=
  decide (scope.kind = .function) && !scope.isCoroutine && !scope.isGenerator && decide (scope.names.lookup p = some .local) &&
    scope.names.all fun y => !decide (y.2 = .cell) && (!decide (y.2 = .local) || decide (y.1 = p)) && (!decide (y.2 = .free) || decide (sc.names.lookup y.1 = some .cell) || decide (sc.names.lookup y.1 = some .free))
theorem lamP_of {sc scope : Scope} {p : Str} (h : lamPB sc scope p = true) : LamP sc scope p := by
  unfold lamPB at h
  simp only [Bool.and_eq_true, decide_eq_true_eq, Bool.not_eq_true', List.all_eq_true, Bool.or_eq_true, decide_eq_false_iff_not] at h
  obtain ⟨⟨⟨⟨h1, h2⟩, h3⟩, h4⟩, h5⟩ := h
  refine ⟨h1, h2, h3, h4, fun y hy => (h5 y hy).1.1, fun y hy e => ?_, fun y hy e => ?_⟩
  · rcases (h5 y hy).1.2 with z | z
    · exact (z e).elim
    · exact z
  · rcases (h5 y hy).2 with (z | z) | z
    · exact (z e).elim
    · exact .inl z
    · exact .inr z
section
variable {X : Cx} {pins : List (Addr × Obj)} {σ : L2.St} {H : Hp} {s : Shared} {scope : Scope} {p : Str}
theorem LamP.has (L : LamP X.env.scope scope p) (ok : X.Ok) (y : Str × NameKind) (hy : y ∈ scope.names) (e : y.2 = .free) : ∃ c, X.env.cells.lookup y.1 = some c :=
  ok.has _ ((L.fre y hy e).elim .inl .inr)
theorem clo_at {cells : List (Str × Addr)} {sc : Scope} (hf : ∀ y ∈ sc.names, y.2 = .free → ∃ c, cells.lookup y.1 = some c) {y : Str} {c : Addr} (e : (cloFrom cells sc.names []).lookup y = some c) : cells.lookup y = some c := by
  rcases cloFrom_mem (PySem.mem_of_lookup e) with q | ⟨q1, q2⟩
  · cases q
  · obtain ⟨c1, q3⟩ := hf _ q1 rfl
    have q3' : cells.lookup y = some c1 := q3
    rw [q3'] at q2
    rw [q3', q2]; rfl
/-- the lambda's body begins -/
theorem lam_begin {A : Around} {E : XK} {f c' : Addr} {h₁ : Heap} {tk i : Nat} {v : V} {u : Value} (I : Inv X pins σ H s) (L : LamP X.env.scope scope p) (hN : X.N[i]? = some p) (nd : X.N.Nodup) (rv : L2.RelV v u) (e0 : Env0 X.prog X.w X.K X.mg X.base A X.stack s H)
    (hd : A.handled = none) (hns : h₁.Ns s.heap.objs.size fun y => [(p, u)].reverse.lookup y) (kp : ∀ b o, s.heap.get? b = some o → h₁.get? b = some o) :
    Inv (LamX.lamCx X A X.stack s H E scope f c') [] (σ.set i (some v)) H { s with heap := h₁, toks := tk } := by
  have hf : ∀ y ∈ scope.names, y.2 = .free → ∃ c, X.env.cells.lookup y.1 = some c := L.has I.ok
  have frl : ∀ {y : Str}, scope.names.lookup y = some .free → ∃ c, (cloFrom X.env.cells scope.names []).lookup y = some c := fun {y} q =>
    mem_lookup (cloFrom_has (cells := X.env.cells) (acc := []) (PySem.mem_of_lookup q))
  have ncell : ∀ {y : Str}, scope.names.lookup y ≠ some .cell := fun {y} q => L.cel _ (PySem.mem_of_lookup q) rfl
  have cK : ∀ {y : Str} {c : Addr}, X.env.cells.lookup y = some c → ∀ {z : Option Value}, s.heap.IsCell c z → h₁.IsCell c z := fun {y c} _ {z} ⟨o, ho, hdt⟩ => ⟨o, kp _ _ ho, hdt⟩
  have ex0 : ∀ b : Addr, b ∉ (LamX.lamCx X A X.stack s H E scope f c').ex := fun b z => nomatch (show b ∈ ([] : List Addr) from z)
  have OK : (LamX.lamCx X A X.stack s H E scope f c').Ok :=
    { mod := e0.mod, kind := L.kind, glob := rfl, blt := rfl, above := Nat.le_refl _
      inj := fun x y c e1 e2 => I.ok.inj x y c (clo_at hf e1) (clo_at hf e2)
      has := fun x hx => hx.elim (fun q => (ncell q).elim) fun q => frl q
      cab := fun x c z => nomatch (show false = true from z)
      hd := fun _ => hd
      frames := Around.frames_deeper e0.frames
      stk := .inr ⟨rfl, rfl⟩
      exf := fun b z => (ex0 b z).elim
      bs := e0.bs, bsz := e0.bsz
      noex := fun b _ _ => ex0 b
      exfs := fun b z => (ex0 b z).elim
      funs := e0.funs, frf := e0.frf }
  refine { ok := OK, os := rfl, bare := e0.bare, base := Un.kept kp, loc := ⟨_, hns, fun j y x e1 e2 e3 => ?_⟩, cell := fun y c e => ?_, free := e0.hok.fresh (Nat.le_refl _), freeC := fun y c e => I.freeC y c (clo_at hf e),
           pin := fun q hq => (nomatch (show q ∈ ([] : List (Addr × Obj)) from hq)), hok := e0.hok.kept kp, len := by rw [List.length_set]; exact I.len }
  · have e1' : X.N[j]? = some y := e1
    by_cases hij : i = j
    · subst hij
      rw [hN] at e1'
      cases e1'
      rw [List.getElem?_set_self (by rw [I.len]; exact (List.getElem?_eq_some_iff.mp hN).1)] at e2
      cases e2
      refine ⟨u, rv, .inl ⟨L.par, ?_⟩⟩
      simp
    · rw [List.getElem?_set_ne hij] at e2
      have hyp : y ≠ p := fun z => by
        rw [z] at e1'
        exact hij (nodup_ix nd hN e1')
      rcases (show Vis scope y from e3) with q | q | q
      · exact (hyp (L.loc _ (PySem.mem_of_lookup q) rfl)).elim
      · exact (ncell q).elim
      · obtain ⟨m, _, hl⟩ := I.loc
        have vis : Vis X.env.scope y := (L.fre _ (PySem.mem_of_lookup q) rfl).elim (fun z => .inr (.inl z)) fun z => .inr (.inr z)
        obtain ⟨w', r, lk⟩ := hl j y x e1' e2 vis
        obtain ⟨c2, h2⟩ := frl q
        have h3 := clo_at hf h2
        refine ⟨w', r, .inr ⟨.inr q, c2, h2, ?_⟩⟩
        rcases lk with ⟨k1, _⟩ | ⟨_, c3, e4, z⟩
        · have k1' : X.env.scope.names.lookup y = some .local := k1
          rcases L.fre _ (PySem.mem_of_lookup q) rfl with k2 | k2
          · exact nomatch k1'.symm.trans k2
          · exact nomatch k1'.symm.trans k2
        · rw [h3] at e4
          cases e4
          exact cK h3 z
  · obtain ⟨z, hz⟩ := I.cell y c (clo_at hf e)
    exact ⟨z, cK (clo_at hf e) hz⟩
/-- the lambda called -/
theorem lam_call {A : Around} {E : XK} {f c' : Addr} {i : Nat} {v : V} {u pm ctv : Value} {params : Arguments} {body : Expr} {tb : TE} {Q : VK} (I : Inv X pins σ H s) (L : LamP X.env.scope scope p) (hN : X.N[i]? = some p) (nd : X.N.Nodup) (rv : L2.RelV v u)
    (hf : s.heap.get? f = some (PySem.W.kla_obj "<lambda>" (X.env.qual ++ "<lambda>") params body scope (cloFrom X.env.cells scope.names []) pm c' ctv)) (hc : H c' = some (LamX.CodeO c' (X.env.qual ++ "<lambda>")))
    (hb : bindArgs (PySem.W.kla_fn "<lambda>" (X.env.qual ++ "<lambda>") params body scope (cloFrom X.env.cells scope.names []) pm (.ref c') ctv) ⟨[u], []⟩ = pure [(p, u)])
    (e0 : Env0 X.prog X.w X.K X.mg X.base A X.stack s H) (hd : A.handled = none) (hdp : A.depth < recursionLimit) (hbody : PE (LamX.lamCx X A X.stack s H E scope f c') body tb) (ht : tb (σ.set i (some v)) H Q) :
    codeAny (model X.prog X.w) A (.call (.ref f) ⟨[u], []⟩) (CR (L2.CX X.prog X.w) X.stack X.prog X.w H s Q E) s := by
  obtain ⟨⟨oc, ws, t, hoc, hdc, hvc⟩, _, _⟩ := I.hok c' _ hc
  refine PySem.W.kla_callFunE hdp hf rfl L.co L.gen rfl ⟨c', oc, ws, t, rfl, hoc, hdc, hvc⟩ ?_
  rw [hb]
  refine wpAny_pure (wpAny_newFunctionEnv (fun y hy => L.cel y hy) (fun y hy => by rw [List.mem_singleton.mp hy]; exact L.par) (fun h₁ hns hsb => ⟨I.nolimit.fresh _ hsb, ?_⟩) L.kind)
  have kp : ∀ b o, s.heap.get? b = some o → h₁.get? b = some o := fun b o e => hsb.extBut b o (Nat.ne_of_lt (Heap.lt_size e)) (Heap.get?_push_of_some _ e)
  have J := lam_begin (E := E) (f := f) (c' := c') (tk := s.toks + [(p, u)].length) I L hN nd rv e0 hd hns kp
  show codeAny _ _ (.expr body (LamX.lamEnv X scope s.heap.objs.size f c')) _ _
  refine PySem.W.kla_codeExpr (wpAny_mono (hbody.run [] _ _ H Q J ht) (fun x s' hq => ?_) fun _ _ hq => hq)
  obtain ⟨y, H', J', ry, q⟩ := hq
  exact ⟨y, H', J'.os, J'.bare, J'.base, J'.hok, ry, q⟩
end
end Iv
end

section
/-! Iv3: the plain operations are what the machine's operations give, value by value. -/
namespace Iv
open PySem L2 PyProof.Rows
variable [Tb]

/-- the mutable objects that frames own -/
abbrev Mh (H : Hp) (M : Addr → Prop) : Prop := ∀ a, M a → ∃ o, H a = some o ∧ Mut (some o)
theorem Mh.sm {H H' : Hp} {M : Addr → Prop} (h : Mh H M) (s : Sm H H') : Mh H' M := fun a m => let ⟨o, h1, h2⟩ := h a m; ⟨o, s.st a o h1 (nt_mut h2), h2⟩
theorem Mh.new {H : Hp} {M : Addr → Prop} (h : Mh H M) {p : Addr} (hp : nn H p) : ¬ M p := fun z => by
  obtain ⟨o, q, qm⟩ := h p z
  exact hp _ q (nt_mut qm)

section
variable {X : Cx} {M : Addr → Prop} {H : Hp}
theorem lim_le : LIM ≤ sizeLine := by rw [LIM_eq]; decide
theorem dlim_le : DLIM ≤ sizeLine := by rw [DLIM_eq]; decide
theorem lim_size {n : Nat} (h : n ≤ LIM) : n ≤ sizeLine := Nat.le_trans h lim_le

/-- two operands in, a datum out -/
def rB (K : PySem.W.Frag) (P : Program) (w : World) (f : PyData → PyData → R PyData) : R2 := fun x y H Q => ∃ M d e r, Mh H M ∧ RpR K P w H M x d ∧ RpR K P w H M y e ∧ f d e = .ok r ∧ ∀ v H', Sm H H' → Rp K P w H' M v r → Q v H'
/-- the same, a truth out -/
def rC (K : PySem.W.Frag) (P : Program) (w : World) (f : PyData → PyData → R Bool) : R2 := fun x y H Q => ∃ M d e r, Mh H M ∧ RpR K P w H M x d ∧ RpR K P w H M y e ∧ f d e = .ok r ∧ ∀ H', Sm H H' → Q (.bl r) H'

theorem RpA.newTup {K : PySem.W.Frag} {P : Program} {w : World} {xs : List V} {ds : List PyData} {p : Addr} (h : RpA K P w H M xs ds) (hp : H p = none) : Rp K P w (upd H p (.tup xs)) M (.ref p) (.tuple ds) :=
  .tup upd_same (h.sm (Sm.new hp))
theorem RpA.newLst {K : PySem.W.Frag} {P : Program} {w : World} {xs : List V} {ds : List PyData} {p : Addr} (m : Mh H M) (h : RpA K P w H M xs ds) (hp : H p = none) : Rp K P w (upd H p (.lst xs)) M (.ref p) (.list ds) :=
  .lst upd_same (m.new (nn_of hp)) (h.sm (Sm.new hp))

def opOf : Bop → Operator
  | .add => .Add | .sub => .Sub | .mul => .Mult | .div => .FloorDiv | .mod => .Mod
theorem opr_add : OpR X (binaryOp .Add) (rB X.K X.prog X.w (pbin .add)) := by
  rintro pins s σ H x y v u Q I rv ru ⟨M, d, e, r, mh, hx, hy, hf, k⟩
  cases d <;> cases e <;> simp only [pbin] at hf <;> try (cases hf; done)
  · cases hf
    exact op_add pins s σ H x y v u Q I rv ru ⟨_, _, hx.int, hy.int, k _ _ (Sm.refl _) (.int _)⟩
  · split at hf
    · rename_i hl
      cases hf
      exact op_add_str pins s σ H x y v u Q I rv ru ⟨_, _, hx.str, hy.str, lim_size hl, k _ _ (Sm.refl _) (.str _)⟩
    · cases hf
  · split at hf
    · rename_i hl
      cases hf
      obtain ⟨a, xs, rfl, ha, ra⟩ := hx.lst
      obtain ⟨b, ys, rfl, hb, rb⟩ := hy.lst
      exact op_cat pins s σ H _ _ v u Q I rv ru ⟨a, b, xs, ys, rfl, rfl, ha, hb, by rw [ra.length, rb.length]; exact lim_size hl, fun p hp => k _ _ (Sm.new hp) ((ra.append rb).newLst mh hp)⟩
    · cases hf
  · split at hf
    · rename_i hl
      cases hf
      obtain ⟨a, xs, rfl, ha, ra⟩ := hx.tup
      obtain ⟨b, ys, rfl, hb, rb⟩ := hy.tup
      refine op_catA pins s σ H _ _ v u Q I rv ru ⟨a, b, xs, ys, rfl, rfl, SqT.of ha, SqT.of hb, by rw [ra.length, rb.length]; exact lim_size hl, fun e1 => ?_, fun e1 e2 => ?_, fun _ _ p hp => k _ _ (Sm.new hp) ((ra.append rb).newTup hp)⟩
      · subst e1
        cases ra
        exact k _ _ (Sm.refl _) (.tup hb rb)
      · subst e2
        cases rb
        rw [List.append_nil] at k
        exact k _ _ (Sm.refl _) (.tup ha ra)
    · cases hf
theorem opr_sub : OpR X (binaryOp .Sub) (rB X.K X.prog X.w (pbin .sub)) := by
  rintro pins s σ H x y v u Q I rv ru ⟨M, d, e, r, mh, hx, hy, hf, k⟩
  cases d <;> cases e <;> simp only [pbin] at hf <;> try (cases hf; done)
  · cases hf
    exact op_sub pins s σ H x y v u Q I rv ru ⟨_, _, hx.int, hy.int, k _ _ (Sm.refl _) (.int _)⟩
theorem opr_mul : OpR X (binaryOp .Mult) (rB X.K X.prog X.w (pbin .mul)) := by
  rintro pins s σ H x y v u Q I rv ru ⟨M, d, e, r, mh, hx, hy, hf, k⟩
  cases d <;> cases e <;> simp only [pbin] at hf <;> try (cases hf; done)
  · split at hf
    · rename_i hl
      cases hf
      exact op_mul pins s σ H x y v u Q I rv ru ⟨_, _, hx.int, hy.int, by simp only [mulOk, decide_eq_true_eq] at hl; exact hl, k _ _ (Sm.refl _) (.int _)⟩
    · cases hf
  · split at hf
    · rename_i hl
      cases hf
      obtain ⟨h1, h2, h3⟩ := hl
      obtain ⟨a, xs, rfl, ha, ra⟩ := hx.lst
      refine op_rep pins s σ H _ _ v u Q I rv ru ⟨a, _, xs, rfl, hy.int, ha, by omega, by omega, ?_, fun p hp => k _ _ (Sm.new hp) ((ra.rep _).newLst mh hp)⟩
      rw [ra.length]
      refine Nat.le_trans (Nat.mul_le_mul h3 (show _ ≤ 1000 by omega)) (by decide)
    · cases hf
  · split at hf
    · rename_i hl
      cases hf
      obtain ⟨h0, h1, h2, h3⟩ := hl
      obtain ⟨a, xs, rfl, ha, ra⟩ := hx.tup
      refine op_repT pins s σ H _ _ v u Q I rv ru ⟨a, _, xs, rfl, hy.int, SqT.of ha, fun z => ?_, h1, h2, by rw [ra.length]; exact h3, fun p hp => k _ _ (Sm.new hp) ((ra.rep _).newTup hp)⟩
      subst z
      cases ra
      exact h0 rfl
    · cases hf
theorem opr_div : OpR X (binaryOp .FloorDiv) (rB X.K X.prog X.w (pbin .div)) := by
  rintro pins s σ H x y v u Q I rv ru ⟨M, d, e, r, mh, hx, hy, hf, k⟩
  cases d <;> cases e <;> simp only [pbin] at hf <;> try (cases hf; done)
  · split at hf
    · rename_i hl
      cases hf
      exact op_fdivN pins s σ H x y v u Q I rv ru ⟨_, _, hx.int, hy.int, hl, k _ _ (Sm.refl _) (.int _)⟩
    · cases hf
theorem opr_mod : OpR X (binaryOp .Mod) (rB X.K X.prog X.w (pbin .mod)) := by
  rintro pins s σ H x y v u Q I rv ru ⟨M, d, e, r, mh, hx, hy, hf, k⟩
  cases d <;> cases e <;> simp only [pbin] at hf <;> try (cases hf; done)
  · split at hf
    · rename_i hl
      cases hf
      exact op_modN pins s σ H x y v u Q I rv ru ⟨_, _, hx.int, hy.int, hl, k _ _ (Sm.refl _) (.int _)⟩
    · cases hf
theorem opr_bin (op : Bop) : OpR X (binaryOp (opOf op)) (rB X.K X.prog X.w (pbin op)) := by
  cases op
  · exact opr_add
  · exact opr_sub
  · exact opr_mul
  · exact opr_div
  · exact opr_mod

/-! ### comparisons -/
theorem opr_eq (hu : X.A.units + 64 < cLine) : OpR X (compareOp .Eq) (rC X.K X.prog X.w (pcmp .eq)) := by
  rintro pins s σ H x y v u Q I rv ru ⟨M, d, e, r, mh, hx, hy, hf, k⟩
  simp only [pcmp] at hf
  split at hf
  · rename_i h
    rw [Bool.and_eq_true] at h
    cases hf
    exact op_eqD hu pins s σ H x y v u Q I rv ru ⟨d, e, hx.dp (nd_lay _ (SeqAt.canLay_of_shaped h.1)), hy.dp (nd_lay _ (SeqAt.canLay_of_shaped h.2)), h.1, h.2, k _ (Sm.refl _)⟩
  · cases hf
theorem opr_ne (hu : X.A.units + 64 < cLine) : OpR X (compareOp .NotEq) (rC X.K X.prog X.w (pcmp .ne)) := by
  rintro pins s σ H x y v u Q I rv ru ⟨M, d, e, r, mh, hx, hy, hf, k⟩
  simp only [pcmp] at hf
  split at hf
  · rename_i h
    rw [Bool.and_eq_true] at h
    cases hf
    exact op_neD hu pins s σ H x y v u Q I rv ru ⟨d, e, hx.dp (nd_lay _ (SeqAt.canLay_of_shaped h.1)), hy.dp (nd_lay _ (SeqAt.canLay_of_shaped h.2)), h.1, h.2, k _ (Sm.refl _)⟩
  · cases hf
theorem opr_lt : OpR X (compareOp .Lt) (rC X.K X.prog X.w (pcmp .lt)) := by
  rintro pins s σ H x y v u Q I rv ru ⟨M, d, e, r, mh, hx, hy, hf, k⟩
  cases d <;> cases e <;> simp only [pcmp] at hf <;> try (cases hf; done)
  cases hf
  exact op_lt pins s σ H x y v u Q I rv ru ⟨_, _, hx.int, hy.int, k _ (Sm.refl _)⟩
theorem opr_le : OpR X (compareOp .LtE) (rC X.K X.prog X.w (pcmp .le)) := by
  rintro pins s σ H x y v u Q I rv ru ⟨M, d, e, r, mh, hx, hy, hf, k⟩
  cases d <;> cases e <;> simp only [pcmp] at hf <;> try (cases hf; done)
  cases hf
  exact op_le pins s σ H x y v u Q I rv ru ⟨_, _, hx.int, hy.int, k _ (Sm.refl _)⟩
theorem opr_gt : OpR X (compareOp .Gt) (rC X.K X.prog X.w (pcmp .gt)) := by
  rintro pins s σ H x y v u Q I rv ru ⟨M, d, e, r, mh, hx, hy, hf, k⟩
  cases d <;> cases e <;> simp only [pcmp] at hf <;> try (cases hf; done)
  cases hf
  exact op_gt pins s σ H x y v u Q I rv ru ⟨_, _, hx.int, hy.int, k _ (Sm.refl _)⟩
theorem opr_ge : OpR X (compareOp .GtE) (rC X.K X.prog X.w (pcmp .ge)) := by
  rintro pins s σ H x y v u Q I rv ru ⟨M, d, e, r, mh, hx, hy, hf, k⟩
  cases d <;> cases e <;> simp only [pcmp] at hf <;> try (cases hf; done)
  cases hf
  exact op_ge pins s σ H x y v u Q I rv ru ⟨_, _, hx.int, hy.int, k _ (Sm.refl _)⟩

/-! is -/
theorem RpR.ref {K : PySem.W.Frag} {P : Program} {w : World} {x : V} {d : PyData} (h : RpR K P w H M x d) (hd : d ≠ .none) : x ≠ .non := by
  rcases h with h | ⟨a, rfl, _⟩
  · cases h <;> first | (intro z; cases z; done) | exact (hd rfl).elim
  · intro z; cases z
theorem opr_is : OpR X (compareOp .Is) (rC X.K X.prog X.w (pcmp .is)) := by
  rintro pins s σ H x y v u Q I rv ru ⟨M, d, e, r, mh, hx, hy, hf, k⟩
  by_cases he : e = .none
  · subst he
    have hf' : r = decide (x = .non) := by
      cases d <;> simp only [pcmp, pis] at hf <;> cases hf
      · rw [hx.non]; rfl
      all_goals exact (decide_eq_false (hx.ref (by intro z; cases z))).symm
    exact op_isN pins s σ H x y v u Q I rv ru ⟨hy.non, by rw [← hf']; exact k _ (Sm.refl _)⟩
  · cases d <;> cases e <;> simp only [pcmp, pis] at hf <;> first | (cases hf; done) | (exact (he rfl).elim) | skip
    cases hf
    rename_i a b
    refine op_is_bl pins s σ H x y v u Q I rv ru ⟨a, b, hx.bool, hy.bool, ?_⟩
    have e1 : decide (a = b) = (a == b) := by cases a <;> cases b <;> rfl
    rw [e1]
    exact k _ (Sm.refl _)
theorem opr_nis : OpR X (compareOp .IsNot) (rC X.K X.prog X.w (pcmp .nis)) := by
  rintro pins s σ H x y v u Q I rv ru ⟨M, d, e, r, mh, hx, hy, hf, k⟩
  by_cases he : e = .none
  · subst he
    have hf' : r = !decide (x = .non) := by
      cases d <;> simp only [pcmp, pis, R.bind_ok] at hf <;> cases hf
      · rw [hx.non]; rfl
      all_goals rw [decide_eq_false (hx.ref (by intro z; cases z)), Bool.not_false]
    exact op_notN pins s σ H x y v u Q I rv ru ⟨hy.non, by rw [← hf']; exact k _ (Sm.refl _)⟩
  · cases d <;> cases e <;> simp only [pcmp, pis, R.bind_ok, R.bind_bad] at hf <;> first | (cases hf; done) | (exact (he rfl).elim) | skip
    cases hf
    rename_i a b
    refine op_isnot_bl pins s σ H x y v u Q I rv ru ⟨a, b, hx.bool, hy.bool, ?_⟩
    have e1 : decide (a = b) = (a == b) := by cases a <;> cases b <;> rfl
    rw [e1]
    exact k _ (Sm.refl _)

/-! ### x in xs -/
theorem inData_any (x : PyData) : ∀ ds : List PyData, inData x ds = ds.any fun z => PyData.eqv z x
  | [] => rfl
  | y :: r => by rw [inData, inData_any x r, List.any_cons]

/-! ### o[i] -/
theorem atI_rp {K : PySem.W.Frag} {P : Program} {w : World} {xs : List V} {ds : List PyData} {i : Int} {d : PyData} (h : RpA K P w H M xs ds) (e : atI ds i = some d) : ∃ v, atI xs i = some v ∧ Rp K P w H M v d := by
  unfold atI at e ⊢
  rw [h.length]
  cases q : ixN ds.length i with
  | none => rw [q] at e; cases e
  | some j =>
    rw [q] at e
    obtain ⟨v, h1, h2⟩ := h.get (i := j) (d := d) e
    exact ⟨v, h1, h2⟩

theorem pin_dict {d : PyData} {kvs : List (PyData × PyData)} {r : Bool} (h : pin d (.dict kvs) = .ok r) : ∃ kvs', kvs = (.none, .none) :: kvs' ∧ keyOk true d = true ∧ r = (dget d kvs').isSome := by
  rcases kvs with _ | ⟨⟨p1, p2⟩, kvs⟩
  · cases d <;> cases h
  cases p1 with
  | none =>
    cases p2 with
    | none =>
      have h' : (if keyOk true d = true then R.ok (dget d kvs).isSome else .bad) = R.ok r := by cases d <;> exact h
      by_cases q : keyOk true d = true
      · rw [if_pos q] at h'; cases h'; exact ⟨kvs, rfl, q, rfl⟩
      · rw [if_neg q] at h'; cases h'
    | _ => cases d <;> cases h
  | _ => cases d <;> cases h
theorem in_dict (hu : X.A.units + 80 < cLine) : OpR X (compareOp .In) (rC X.K X.prog X.w fun d e => match e with | .dict kvs => pin d (.dict kvs) | _ => .bad) := by
  rintro pins s σ H x y v u Q I rv ru ⟨M, d, e, r, mh, hx, hy, hf, k⟩
  cases e with
  | dict kvs =>
    obtain ⟨kvs', rfl, ok, rfl⟩ := pin_dict hf
    obtain ⟨a, es, rfl, ha, rt⟩ := RpR.dT hy
    obtain ⟨ds, n, rfl, hk, _⟩ := keyOk_t ok
    obtain ⟨b, rfl, rfl, N⟩ := key_is I ok hk (RpR.key ok hx) rv
    obtain ⟨D, hd, _⟩ := dko_is I ha rt
    cases ru
    refine wpAny_in_heap (show X.A.in1.units + 8 < cLine by show X.A.units + 1 + 8 < _; omega) N hd D ⟨.bl _, H, I.tok _, rfl, ?_⟩
    have e : (atKey es n).isSome = (dget (.tuple ds) kvs').isSome := by
      rcases rpt_get hk rt with ⟨q1, q2⟩ | ⟨_, _, _, _, q1, q2, _⟩ <;> rw [q1, q2] <;> rfl
    rw [e]
    exact k _ (Sm.refl _)
  | _ => cases hf
theorem nin_dict (hu : X.A.units + 80 < cLine) : OpR X (compareOp .NotIn) (rC X.K X.prog X.w fun d e => match e with | .dict kvs => (pin d (.dict kvs)).bind fun k => .ok (!k) | _ => .bad) := by
  rintro pins s σ H x y v u Q I rv ru ⟨M, d, e, r, mh, hx, hy, hf, k⟩
  cases e with
  | dict kvs =>
    have hf' : (pin d (.dict kvs)).bind (fun k => R.ok (!k)) = R.ok r := hf
    cases hp : pin d (.dict kvs) with
    | bad => rw [hp] at hf'; cases hf'
    | exc c => rw [hp] at hf'; cases hf'
    | ok r0 =>
      rw [hp] at hf'
      cases hf'
      obtain ⟨kvs', rfl, ok, rfl⟩ := pin_dict hp
      obtain ⟨a, es, rfl, ha, rt⟩ := RpR.dT hy
      obtain ⟨ds, n, rfl, hk, _⟩ := keyOk_t ok
      obtain ⟨b, rfl, rfl, N⟩ := key_is I ok hk (RpR.key ok hx) rv
      obtain ⟨D, hd, _⟩ := dko_is I ha rt
      cases ru
      have e : (atKey es n).isSome = (dget (.tuple ds) kvs').isSome := by
        rcases rpt_get hk rt with ⟨q1, q2⟩ | ⟨_, _, _, _, q1, q2, _⟩ <;> rw [q1, q2] <;> rfl
      show wpAny _ _ (do return Value.bool (!(← contains (Value.ref a) (Value.ref b)))) _ _ s
      refine wpAny_bind (wpAny_contains_heap (show X.A.in1.units + 8 < cLine by show X.A.units + 1 + 8 < _; omega) N hd D (wpAny_pure ⟨.bl _, H, I.tok _, rfl, ?_⟩))
      rw [e]
      exact k _ (Sm.refl _)
  | _ => cases hf
/-! ### in -/
theorem shaped_ds {ds : List PyData} (h : SeqAt.shaped (.list ds) = true) : PyData.canLayAll0 ds = true := SeqAt.canLay_of_shaped h
theorem shaped_dt {ds : List PyData} (h : SeqAt.shaped (.tuple ds) = true) : PyData.canLayAll0 ds = true := SeqAt.canLay_of_shaped h

/-! ### o[i] -/
theorem atI_map {α β : Type} (f : α → β) (l : List α) (i : Int) : atI (l.map f) i = (atI l i).map f := by
  unfold atI
  rw [List.length_map]
  cases ixN l.length i with
  | none => rfl
  | some j => exact List.getElem?_map
theorem ixr_dict (hu : X.A.units + 9 < cLine) : IxR X (fun x y H Q => ∃ M kvs e r, Mh H M ∧ RpR X.K X.prog X.w H M x (.dict kvs) ∧ RpR X.K X.prog X.w H M y e ∧ pix (.dict kvs) e = .ok r ∧ ∀ v H', Sm H H' → Rp X.K X.prog X.w H' M v r → Q v H') := by
  rintro value slice pins s σ H x y v u Q I rv ru ⟨M, kvs, e, r, mh, hx, hy, hf, k⟩ hs
  rcases kvs with _ | ⟨⟨p1, p2⟩, kvs⟩
  · cases e <;> cases hf
  cases p1 with
  | none =>
    cases p2 with
    | none =>
      have hf' : (if keyOk true e then (match dget e kvs with | some v => R.ok v | none => .bad) else .bad) = R.ok r := by cases e <;> exact hf
      by_cases ok : keyOk true e = true
      · rw [if_pos ok] at hf'
        cases hg : dget e kvs with
        | none => rw [hg] at hf'; cases hf'
        | some d =>
          rw [hg] at hf'; cases hf'
          exact ix_T hu value slice pins s σ H x y v u Q I rv ru ⟨M, kvs, e, r, hx, hy, ok, hg, fun v q => k _ _ (Sm.refl _) q⟩ hs
      · rw [if_neg ok] at hf'; cases hf'
    | bool b =>
      cases b with
      | true =>
        have hf' : (if keyOk false e then (match dget e kvs with | some v => R.ok v | none => .bad) else .bad) = R.ok r := by cases e <;> exact hf
        by_cases ok : keyOk false e = true
        · rw [if_pos ok] at hf'
          cases hg : dget e kvs with
          | none => rw [hg] at hf'; cases hf'
          | some d =>
            rw [hg] at hf'; cases hf'
            exact ix_K hu value slice pins s σ H x y v u Q I rv ru ⟨M, kvs, e, r, hx, hy, ok, hg, fun v q => k _ _ (Sm.refl _) q⟩ hs
        · rw [if_neg ok] at hf'; cases hf'
      | false =>
        cases e with
        | int i =>
          have hf' : (match L2.atI kvs i with | some v => R.ok v.1 | none => .bad) = R.ok r := hf
          obtain ⟨a, ns, rfl, rfl, hq⟩ := hx.scr
          rw [atI_map] at hf'
          cases hz : atI ns i with
          | none => rw [hz] at hf'; cases hf'
          | some z =>
            rw [hz] at hf'
            cases hf'
            exact ix_list value slice pins s σ H _ _ v u Q I rv ru ⟨a, _, _, .int z, rfl, hy.int, hq, by rw [atI_map, hz]; rfl, k _ _ (Sm.refl _) (.int _)⟩ hs
        | _ => cases hf
    | _ => cases e <;> cases hf
  | _ => cases e <;> cases hf
theorem ixr_pix (hu : X.A.units + 9 < cLine) : IxR X (rB X.K X.prog X.w pix) := by
  rintro value slice pins s σ H x y v u Q I rv ru ⟨M, d, e, r, mh, hx, hy, hf, k⟩ hs
  cases d with
  | list ds =>
    cases e <;> simp only [pix] at hf <;> try (cases hf; done)
    split at hf
    · rename_i z hz
      cases hf
      obtain ⟨a, xs, rfl, ha, ra⟩ := hx.lst
      obtain ⟨w, h1, h2⟩ := atI_rp ra hz
      exact ix_list value slice pins s σ H _ _ v u Q I rv ru ⟨a, xs, _, w, rfl, hy.int, SqL.of ha, h1, k _ _ (Sm.refl _) h2⟩ hs
    · cases hf
  | tuple ds =>
    cases e <;> simp only [pix] at hf <;> try (cases hf; done)
    split at hf
    · rename_i z hz
      cases hf
      obtain ⟨a, xs, rfl, ha, ra⟩ := hx.tup
      obtain ⟨w, h1, h2⟩ := atI_rp ra hz
      exact ix_tup value slice pins s σ H _ _ v u Q I rv ru ⟨a, xs, _, w, rfl, hy.int, SqT.of ha, h1, k _ _ (Sm.refl _) h2⟩ hs
    · cases hf
  | str z =>
    cases e <;> simp only [pix] at hf <;> try (cases hf; done)
    split at hf
    · rename_i hl
      split at hf
      · rename_i c hc
        cases hf
        exact ix_str value slice pins s σ H _ _ v u Q I rv ru ⟨z, _, c, hx.str, hy.int, lim_size hl, hc, k _ _ (Sm.refl _) (.str _)⟩ hs
      · cases hf
    · cases hf
  | dict kvs => exact ixr_dict hu value slice pins s σ H x y v u Q I rv ru ⟨M, kvs, e, r, mh, hx, hy, hf, k⟩ hs
  | none => cases e <;> simp only [pix] at hf <;> cases hf
  | bool _ => cases e <;> simp only [pix] at hf <;> cases hf
  | int _ => cases e <;> simp only [pix] at hf <;> cases hf

theorem RpA.grow {K : PySem.W.Frag} {P : Program} {w : World} {H' : Hp} {xs : List V} {ds : List PyData} {p : Addr} (h : RpA K P w H M xs ds) (hp : nn H p) (s : Sm H H') : RpA K P w H' (fun a => M a ∨ a = p) xs ds :=
  h.to (fun b o e n _ => s.st b o e n) fun a z => z.elim .inl fun z => .inr (by rw [z]; exact hp)
/-- is the result of a built-in a new list -/
def NewL (K : PySem.W.Frag) (P : Program) (w : World) (H H' : Hp) (M : Addr → Prop) (v : V) (r : PyData) : Prop := ∃ p xs ds, r = .list ds ∧ v = .ref p ∧ nn H p ∧ H' p = some (.lst xs) ∧ RpA K P w H' (fun a => M a ∨ a = p) xs ds
/-! ### a[lo:hi] -/
theorem cutV_rp {K : PySem.W.Frag} {P : Program} {w : World} {xs : List V} {ds : List PyData} (h : RpA K P w H M xs ds) (lo hi : Option Int) : RpA K P w H M (cutV xs lo hi) (cutL ds lo hi) := by
  unfold cutV cutL
  rw [h.length]
  exact (h.drop _).take _
/-- what a slice is: of a list a new list -/
def rSl (K : PySem.W.Frag) (P : Program) (w : World) : V → Option Int → Option Int → Hp → VK → Prop := fun x lo hi H Q => ∃ M d r, Mh H M ∧ RpR K P w H M x d ∧ psl d lo hi = .ok r ∧
  ∀ v H', Sm H H' → Rp K P w H' M v r → (∀ ds, r = .list ds → NewL K P w H H' M v r) → Q v H'
theorem slr : SlR X (rSl X.K X.prog X.w) := by
  rintro pins s σ H x v vl vu lo hi sl Q I rx hs pl pu ⟨M, d, r, mh, hx, hf, k⟩
  cases d with
  | list ds =>
    simp only [psl] at hf
    cases hf
    obtain ⟨a, xs, rfl, ha, ra⟩ := hx.lst
    exact sl_list pins s σ H _ v vl vu lo hi sl Q I rx hs pl pu ⟨a, xs, rfl, SqL.of ha, fun p hp => k _ _ (Sm.new hp) ((cutV_rp ra lo hi).newLst mh hp) fun ds' e => by
      cases e
      exact ⟨p, _, _, rfl, rfl, nn_of hp, upd_same, (cutV_rp ra lo hi).grow (nn_of hp) (Sm.new hp)⟩⟩
  | tuple ds =>
    simp only [psl] at hf
    cases hf
    obtain ⟨a, xs, rfl, ha, ra⟩ := hx.tup
    refine sl_tupA pins s σ H _ v vl vu lo hi sl Q I rx hs pl pu ⟨a, xs, rfl, SqT.of ha, fun e => ?_, fun _ p hp => k _ _ (Sm.new hp) ((cutV_rp ra lo hi).newTup hp) fun _ e => nomatch e⟩
    have e2 : cutL ds lo hi = ds := by
      have hl := ra.length
      unfold cutL
      rw [hl] at e
      rw [e.1, e.2, List.drop_zero, Nat.sub_zero, List.take_length]
    rw [e2] at k
    exact k _ _ (Sm.refl _) (.tup ha ra) fun _ e => nomatch e
  | _ => simp only [psl] at hf; cases hf

/-! ### built-ins -/
theorem intsOf_eq : ∀ {ds : List PyData} {ns : List Int}, intsOf ds = some ns → ds = ns.map .int
  | [], ns, h => by cases h; rfl
  | d :: ds, ns, h => by
    cases d with
    | int i =>
      simp only [intsOf] at h
      cases q : intsOf ds with
      | none => rw [q] at h; cases h
      | some l =>
        rw [q] at h
        cases h
        rw [List.map_cons, intsOf_eq q]
    | _ => cases h
theorem boolsOf_eq : ∀ {ds : List PyData} {ns : List Bool}, boolsOf ds = some ns → ds = ns.map .bool
  | [], ns, h => by cases h; rfl
  | d :: ds, ns, h => by
    cases d with
    | bool i =>
      simp only [boolsOf] at h
      cases q : boolsOf ds with
      | none => rw [q] at h; cases h
      | some l =>
        rw [q] at h
        cases h
        rw [List.map_cons, boolsOf_eq q]
    | _ => cases h
theorem maxOf_mem : ∀ (m : Int) (l : List Int), maxOf m l ∈ m :: l
  | m, [] => List.mem_singleton.mpr rfl
  | m, x :: r => by
    have h := maxOf_mem (if m < x then x else m) r
    show maxOf (if m < x then x else m) r ∈ m :: x :: r
    rcases List.mem_cons.mp h with e | e
    · rw [e]; split
      · exact List.mem_cons_of_mem _ List.mem_cons_self
      · exact List.mem_cons_self
    · exact List.mem_cons_of_mem _ (List.mem_cons_of_mem _ e)
theorem maxOf_le : ∀ (m : Int) (l : List Int) (y : Int), y ∈ m :: l → y ≤ maxOf m l
  | m, [], y, h => by rw [List.mem_singleton.mp h]; exact Int.le_refl _
  | m, x :: r, y, h => by
    have hx := maxOf_le (if m < x then x else m) r
    show y ≤ maxOf (if m < x then x else m) r
    have h0 := hx _ List.mem_cons_self
    rcases List.mem_cons.mp h with e | e
    · subst e; split at h0 <;> split <;> omega
    · rcases List.mem_cons.mp e with e | e
      · subst e; split at h0 <;> split <;> omega
      · exact hx y (List.mem_cons_of_mem _ e)
theorem minOf_mem : ∀ (m : Int) (l : List Int), minOf m l ∈ m :: l
  | m, [] => List.mem_singleton.mpr rfl
  | m, x :: r => by
    have h := minOf_mem (if x < m then x else m) r
    show minOf (if x < m then x else m) r ∈ m :: x :: r
    rcases List.mem_cons.mp h with e | e
    · rw [e]; split
      · exact List.mem_cons_of_mem _ List.mem_cons_self
      · exact List.mem_cons_self
    · exact List.mem_cons_of_mem _ (List.mem_cons_of_mem _ e)
theorem minOf_le : ∀ (m : Int) (l : List Int) (y : Int), y ∈ m :: l → minOf m l ≤ y
  | m, [], y, h => by rw [List.mem_singleton.mp h]; exact Int.le_refl _
  | m, x :: r, y, h => by
    have hx := minOf_le (if x < m then x else m) r
    show minOf (if x < m then x else m) r ≤ y
    have h0 := hx _ List.mem_cons_self
    rcases List.mem_cons.mp h with e | e
    · subst e; split at h0 <;> split <;> omega
    · rcases List.mem_cons.mp e with e | e
      · subst e; split at h0 <;> split <;> omega
      · exact hx y (List.mem_cons_of_mem _ e)

def rBi (K : PySem.W.Frag) (P : Program) (w : World) (b : Bi) : List V → Hp → VK → Prop := fun vs H Q => ∃ M ds r, Mh H M ∧ Paired (RpR K P w H M) vs ds ∧ pbi b ds = .ok r ∧
  ∀ v H', Sm H H' → Rp K P w H' M v r → ((b = .list ∨ b = .sorted) → NewL K P w H H' M v r) → Q v H'
theorem one_of {K : PySem.W.Frag} {P : Program} {w : World} {vs : List V} {d : PyData} (h : Paired (RpR K P w H M) vs [d]) : ∃ v, vs = [v] ∧ RpR K P w H M v d := by
  cases h with
  | cons h r => cases r; exact ⟨_, rfl, h⟩
theorem two_of {K : PySem.W.Frag} {P : Program} {w : World} {vs : List V} {d e : PyData} (h : Paired (RpR K P w H M) vs [d, e]) : ∃ v u, vs = [v, u] ∧ RpR K P w H M v d ∧ RpR K P w H M u e := by
  cases h with
  | cons h r => obtain ⟨u, rfl, q⟩ := one_of r; exact ⟨_, _, rfl, h, q⟩

theorem cb_len : CallR X (.builtin "len") (rBi X.K X.prog X.w .len) := by
  rintro pins s σ H vs us Q I rv ⟨M, ds, r, mh, hx, hf, k⟩
  have no : ¬ (Bi.len = Bi.list ∨ Bi.len = Bi.sorted) := by decide
  unfold pbi at hf
  split at hf <;> first | (rename_i h; cases h; done) | skip
  · rename_i xs _
    cases hf
    obtain ⟨v, rfl, hv⟩ := one_of hx
    obtain ⟨a, ys, rfl, ha, ra⟩ := hv.lst
    exact call_len_seq pins s σ H _ us Q I rv ⟨a, ys, rfl, .inl (SqL.of ha), by rw [ra.length]; exact k _ _ (Sm.refl _) (.int _) fun z => (no z).elim⟩
  · rename_i xs _
    cases hf
    obtain ⟨v, rfl, hv⟩ := one_of hx
    obtain ⟨a, ys, rfl, ha, ra⟩ := hv.tup
    exact call_len_seq pins s σ H _ us Q I rv ⟨a, ys, rfl, .inr (SqT.of ha), by rw [ra.length]; exact k _ _ (Sm.refl _) (.int _) fun z => (no z).elim⟩
  · rename_i kvs _
    cases hf
    obtain ⟨v, rfl, hv⟩ := one_of hx
    obtain ⟨a, ns, rfl, e, hs⟩ := hv.scr
    exact call_len_seq pins s σ H _ us Q I rv ⟨a, _, rfl, .inl hs, by
      have h := k (.int kvs.length) H (Sm.refl _) (.int _) fun z => (no z).elim
      rw [e, List.length_map] at h
      rw [List.length_map]; exact h⟩
  · rename_i z _
    split at hf
    · rename_i hl
      cases hf
      obtain ⟨v, rfl, hv⟩ := one_of hx
      cases hv.str
      exact call_len_str pins s σ H _ us Q I rv ⟨z, rfl, lim_size hl, k _ _ (Sm.refl _) (.int _) fun z => (no z).elim⟩
    · cases hf
  · cases hf
theorem cb_abs : CallR X (.builtin "abs") (rBi X.K X.prog X.w .abs) := by
  rintro pins s σ H vs us Q I rv ⟨M, ds, r, mh, hx, hf, k⟩
  have no : ¬ (Bi.abs = Bi.list ∨ Bi.abs = Bi.sorted) := by decide
  unfold pbi at hf
  split at hf <;> first | (rename_i h; cases h; done) | skip
  · rename_i i _
    cases hf
    obtain ⟨v, rfl, hv⟩ := one_of hx
    cases hv.int
    exact call_abs pins s σ H _ us Q I rv ⟨i, rfl, k _ _ (Sm.refl _) (.int _) fun z => (no z).elim⟩
  · cases hf
theorem cb_max (hc : X.calm = true) : CallR X (.builtin "max") (rBi X.K X.prog X.w .max) := by
  rintro pins s σ H vs us Q I rv ⟨M, ds, r, mh, hx, hf, k⟩
  have no : ¬ (Bi.max = Bi.list ∨ Bi.max = Bi.sorted) := by decide
  unfold pbi at hf
  split at hf <;> first | (rename_i h; cases h; done) | skip
  · rename_i i j _
    cases hf
    obtain ⟨v, u, rfl, hv, hu⟩ := two_of hx
    cases hv.int
    cases hu.int
    exact call_max2 hc pins s σ H _ us Q I rv ⟨i, j, rfl, k _ _ (Sm.refl _) (.int _) fun z => (no z).elim⟩
  · rename_i xs _
    split at hf
    · rename_i x r' e
      cases hf
      have e2 := intsOf_eq e
      subst e2
      obtain ⟨v, rfl, hv⟩ := one_of hx
      obtain ⟨a, ys, rfl, ha, ra⟩ := hv.lst
      have e3 := ra.ints
      subst e3
      refine cr_max hc pins s σ H _ us Q I rv ⟨a, x :: r', rfl, SqL.of ha, Nat.succ_pos _, fun m h1 h2 => ?_⟩
      have e4 : m = maxOf x r' := by
        have a1 := h2 _ (maxOf_mem x r')
        have a2 := maxOf_le x r' m h1
        omega
      rw [e4]
      exact k _ _ (Sm.refl _) (.int _) fun z => (no z).elim
    · cases hf
  · cases hf
theorem cb_sum (hc : X.calm = true) : CallR X (.builtin "sum") (rBi X.K X.prog X.w .sum) := by
  rintro pins s σ H vs us Q I rv ⟨M, ds, r, mh, hx, hf, k⟩
  have no : ¬ (Bi.sum = Bi.list ∨ Bi.sum = Bi.sorted) := by decide
  unfold pbi at hf
  split at hf <;> first | (rename_i h; cases h; done) | skip
  · rename_i xs _
    split at hf
    · rename_i ns e
      cases hf
      have e2 := intsOf_eq e
      subst e2
      obtain ⟨v, rfl, hv⟩ := one_of hx
      obtain ⟨a, ys, rfl, ha, ra⟩ := hv.lst
      have e3 := ra.ints
      subst e3
      exact cr_sum hc pins s σ H _ us Q I rv ⟨a, ns, rfl, SqL.of ha, k _ _ (Sm.refl _) (.int _) fun z => (no z).elim⟩
    · cases hf
  · cases hf
theorem cb_all (hc : X.calm = true) : CallR X (.builtin "all") (rBi X.K X.prog X.w .all) := by
  rintro pins s σ H vs us Q I rv ⟨M, ds, r, mh, hx, hf, k⟩
  have no : ¬ (Bi.all = Bi.list ∨ Bi.all = Bi.sorted) := by decide
  unfold pbi at hf
  split at hf <;> first | (rename_i h; cases h; done) | skip
  · rename_i xs _
    split at hf
    · rename_i ns e
      cases hf
      have e2 := boolsOf_eq e
      subst e2
      obtain ⟨v, rfl, hv⟩ := one_of hx
      obtain ⟨a, ys, rfl, ha, ra⟩ := hv.lst
      have e3 := ra.bools
      subst e3
      exact cr_all hc pins s σ H _ us Q I rv ⟨a, ns, rfl, SqL.of ha, k _ _ (Sm.refl _) (.bl _) fun z => (no z).elim⟩
    · cases hf
  · cases hf
theorem cb_any (hc : X.calm = true) : CallR X (.builtin "any") (rBi X.K X.prog X.w .any) := by
  rintro pins s σ H vs us Q I rv ⟨M, ds, r, mh, hx, hf, k⟩
  have no : ¬ (Bi.any = Bi.list ∨ Bi.any = Bi.sorted) := by decide
  unfold pbi at hf
  split at hf <;> first | (rename_i h; cases h; done) | skip
  · rename_i xs _
    split at hf
    · rename_i ns e
      cases hf
      have e2 := boolsOf_eq e
      subst e2
      obtain ⟨v, rfl, hv⟩ := one_of hx
      obtain ⟨a, ys, rfl, ha, ra⟩ := hv.lst
      have e3 := ra.bools
      subst e3
      exact cr_any hc pins s σ H _ us Q I rv ⟨a, ns, rfl, SqL.of ha, k _ _ (Sm.refl _) (.bl _) fun z => (no z).elim⟩
    · cases hf
  · cases hf
theorem cb_tuple : CallR X (.type "tuple") (rBi X.K X.prog X.w .tuple) := by
  rintro pins s σ H vs us Q I rv ⟨M, ds, r, mh, hx, hf, k⟩
  have no : ¬ (Bi.tuple = Bi.list ∨ Bi.tuple = Bi.sorted) := by decide
  unfold pbi at hf
  split at hf <;> first | (rename_i h; cases h; done) | skip
  · rename_i xs _
    cases hf
    obtain ⟨v, rfl, hv⟩ := one_of hx
    obtain ⟨a, ys, rfl, ha, ra⟩ := hv.lst
    exact call_tuple_of pins s σ H _ us Q I rv ⟨a, ys, rfl, .inl ⟨SqL.of ha, fun p hp => k _ _ (Sm.new hp) (ra.newTup hp) fun z => (no z).elim⟩⟩
  · rename_i xs _
    cases hf
    obtain ⟨v, rfl, hv⟩ := one_of hx
    obtain ⟨a, ys, rfl, ha, ra⟩ := hv.tup
    exact call_tuple_of pins s σ H _ us Q I rv ⟨a, ys, rfl, .inr ⟨SqT.of ha, k _ _ (Sm.refl _) (.tup ha ra) fun z => (no z).elim⟩⟩
  · cases hf
theorem cb_list : CallR X (.type "list") (rBi X.K X.prog X.w .list) := by
  rintro pins s σ H vs us Q I rv ⟨M, ds, r, mh, hx, hf, k⟩
  unfold pbi at hf
  split at hf <;> first | (rename_i h; cases h; done) | skip
  · rename_i xs _
    cases hf
    obtain ⟨v, rfl, hv⟩ := one_of hx
    obtain ⟨a, ys, rfl, ha, ra⟩ := hv.lst
    exact call_list_of pins s σ H _ us Q I rv ⟨a, ys, rfl, .inl (SqL.of ha), fun p hp => k _ _ (Sm.new hp) (ra.newLst mh hp) fun _ => ⟨p, ys, _, rfl, rfl, nn_of hp, upd_same, ra.grow (nn_of hp) (Sm.new hp)⟩⟩
  · rename_i xs _
    cases hf
    obtain ⟨v, rfl, hv⟩ := one_of hx
    obtain ⟨a, ys, rfl, ha, ra⟩ := hv.tup
    exact call_list_of pins s σ H _ us Q I rv ⟨a, ys, rfl, .inr (SqT.of ha), fun p hp => k _ _ (Sm.new hp) (ra.newLst mh hp) fun _ => ⟨p, ys, _, rfl, rfl, nn_of hp, upd_same, ra.grow (nn_of hp) (Sm.new hp)⟩⟩
  · cases hf
theorem cb_int : CallR X (.type "int") (rBi X.K X.prog X.w .int) := by
  rintro pins s σ H vs us Q I rv ⟨M, ds, r, mh, hx, hf, k⟩
  have no : ¬ (Bi.int = Bi.list ∨ Bi.int = Bi.sorted) := by decide
  unfold pbi at hf
  split at hf <;> first | (rename_i h; cases h; done) | skip
  · rename_i i _
    cases hf
    obtain ⟨v, rfl, hv⟩ := one_of hx
    cases hv.int
    exact call_int1 pins s σ H _ us Q I rv (.inl ⟨i, rfl, k _ _ (Sm.refl _) (.int _) fun z => (no z).elim⟩)
  · rename_i i _
    cases hf
    obtain ⟨v, rfl, hv⟩ := one_of hx
    cases hv.bool
    exact call_int1 pins s σ H _ us Q I rv (.inr ⟨i, rfl, k _ _ (Sm.refl _) (.int _) fun z => (no z).elim⟩)
  · cases hf
theorem cb_str : CallR X (.type "str") (rBi X.K X.prog X.w .str) := by
  rintro pins s σ H vs us Q I rv ⟨M, ds, r, mh, hx, hf, k⟩
  have no : ¬ (Bi.str = Bi.list ∨ Bi.str = Bi.sorted) := by decide
  unfold pbi at hf
  split at hf <;> first | (rename_i h; cases h; done) | skip
  · rename_i i _
    split at hf
    · rename_i hl
      cases hf
      obtain ⟨v, rfl, hv⟩ := one_of hx
      cases hv.int
      refine call_str_int pins s σ H _ us Q I rv ⟨i, rfl, ?_, k _ _ (Sm.refl _) (.str _) fun z => (no z).elim⟩
      by_cases h0 : i.natAbs = 0
      · rw [h0]; decide
      · exact Nat.lt_trans ((Nat.log2_lt h0).mpr hl) (by decide)
    · cases hf
  · cases hf

/-! ### sorted -/
theorem RpA.each {K : PySem.W.Frag} {P : Program} {w : World} : ∀ {xs : List V} {ds : List PyData} {us : List Value}, RpA K P w H M xs ds → Vals xs us → W.EachIs (fun u d => ∃ x, RelV x u ∧ Rp K P w H M x d) us ds
  | _, _, _, .nil, .nil => .nil
  | _, _, _, .cons h r, .cons q t => .cons ⟨_, q, h⟩ (RpA.each r t)
theorem RpA.ofEach {K : PySem.W.Frag} {P : Program} {w : World} : ∀ {us : List Value} {ds : List PyData}, W.EachIs (fun u d => ∃ x, RelV x u ∧ Rp K P w H M x d) us ds → ∃ xs, Vals xs us ∧ RpA K P w H M xs ds
  | _, _, .nil => ⟨[], .nil, .nil⟩
  | _, _, .cons ⟨x, q, h⟩ t => by
    obtain ⟨xs, h1, h2⟩ := RpA.ofEach t
    exact ⟨x :: xs, .cons q h1, .cons h h2⟩
theorem RpA.reads {pins : List (Addr × Obj)} {σ : L2.St} {s : Shared} (I : L2.Inv X pins σ H s) : ∀ {vs : List V} {ds : List PyData} {us : List Value}, (∀ d ∈ ds, nd d = true) → RpA X.K X.prog X.w H M vs ds → Vals vs us →
    W.EachIs (fun (u : Value) (d : PyData) => ∃ as, Reads s.heap u (id d) as) us ds
  | _, _, _, _, .nil, .nil => .nil
  | _, _, _, hn, .cons h r, .cons q t => .cons (Dp.reads I _ _ _ (h.dp (hn _ List.mem_cons_self)) q) (RpA.reads I (fun d hd => hn d (List.mem_cons_of_mem _ hd)) r t)
theorem sortOk_and {ds : List PyData} (h : sortOk ds = true) : W.AllAlike ds ∧ W.Sortable ds ∧ (∀ d ∈ ds, d.depth ≤ 64) ∧ ds.length ≤ LIM := by
  unfold sortOk at h
  rw [Bool.and_eq_true, Bool.and_eq_true, Bool.and_eq_true] at h
  obtain ⟨⟨⟨h1, h2⟩, h3⟩, h4⟩ := h
  refine ⟨fun d hd d' hd' => List.all_eq_true.mp (List.all_eq_true.mp h1 d hd) d' hd', ?_, fun d hd => of_decide_eq_true (List.all_eq_true.mp h3 d hd), of_decide_eq_true h4⟩
  rw [Bool.or_eq_true] at h2
  rcases h2 with h2 | h2
  · refine .inl fun d hd => ?_
    have q := List.all_eq_true.mp h2 d hd
    split at q
    · exact ⟨_, _, rfl⟩
    · cases q
  · refine .inr fun d hd => ?_
    have q := List.all_eq_true.mp h2 d hd
    split at q
    · exact ⟨(fun z => nomatch z), fun _ z => nomatch z⟩
    · exact ⟨(fun z => nomatch z), fun _ z => nomatch z⟩
    · exact ⟨(fun z => nomatch z), fun _ z => nomatch z⟩
    · cases q
/-! ### xs.index(x) -/
theorem indexOf_at (x : PyData) : ∀ (ds : List PyData) (n j : Nat), indexOf x n ds = some j → n ≤ j ∧ ∃ z, ds[j - n]? = some z ∧ PyData.eqv z x = true ∧ ∀ m z', m < j - n → ds[m]? = some z' → PyData.eqv z' x = false
  | [], n, j, h => by cases h
  | y :: r, n, j, h => by
    unfold indexOf at h
    split at h
    · rename_i e
      cases h
      refine ⟨Nat.le_refl _, y, by rw [Nat.sub_self]; rfl, e, fun m z' hm _ => ?_⟩
      rw [Nat.sub_self] at hm
      exact absurd hm (Nat.not_lt_zero _)
    · rename_i e
      obtain ⟨h1, z, h2, h3, h4⟩ := indexOf_at x r (n + 1) j h
      have ej : j - n = (j - (n + 1)) + 1 := by omega
      refine ⟨by omega, z, by rw [ej]; exact h2, h3, fun m z' hm hz => ?_⟩
      cases m with
      | zero =>
        cases hz
        cases q : PyData.eqv y x with
        | false => rfl
        | true => exact (e q).elim
      | succ m => exact h4 m z' (by omega) hz
def rMe (K : PySem.W.Frag) (P : Program) (w : World) (m : Me) : V → List V → Hp → VK → Prop := fun x vs H Q => ∃ M d ds r, Mh H M ∧ RpR K P w H M x d ∧ RpA K P w H M vs ds ∧ pmeth m d ds = .ok r ∧
  ∀ v H', Sm H H' → Rp K P w H' M v r → Q v H'
theorem me_index (hu : X.A.units + 80 < cLine) : MtR X "list.index" (rMe X.K X.prog X.w .index) := by
  rintro pins s σ H x vs v us Q I rx rv ⟨M, d, ds, r, mh, hx, hv, hf, k⟩
  unfold pmeth at hf
  split at hf <;> first | (rename_i h; cases h; done) | skip
  · rename_i xs y _
    split at hf
    · rename_i hs
      rw [Bool.and_eq_true] at hs
      split at hf
      · rename_i j hj
        cases hf
        obtain ⟨z, rfl, hz⟩ := hv.one
        obtain ⟨_, z', h2, h3, h4⟩ := indexOf_at y xs 0 j hj
        obtain ⟨a, ys, rfl, ha, ra⟩ := hx.lst
        exact mt_indexD (by omega) pins s σ H _ _ v us Q I rx rv ⟨a, z, y, xs, j, z', rfl, rfl, hx.dp (nd_lay _ (SeqAt.canLay_of_shaped hs.2)), hz.dp (nd_lay _ (SeqAt.canLay_of_shaped hs.1)), hs.2, hs.1, h2, h3, fun m z'' hm => h4 m z'' hm, k _ _ (Sm.refl _) (.int _)⟩
      · cases hf
    · cases hf
  · cases hf

/-! ### isinstance -/
def tyN : Ty → String
  | .int => "int" | .bool => "bool" | .tuple => "tuple" | .str => "str"
def rIs (K : PySem.W.Frag) (P : Program) (w : World) (t : Ty) : List V → Hp → VK → Prop := fun vs H Q => ∃ M x d r, vs = [x, .ty (tyN t)] ∧ Mh H M ∧ RpR K P w H M x d ∧ pisi d t = .ok r ∧ Q (.bl r) H
theorem cb_isi {t : Ty} : CallR X (.builtin "isinstance") (rIs X.K X.prog X.w t) := by
  rintro pins s σ H vs us Q I rv ⟨M, x, d, r, rfl, mh, hx, hf, k⟩
  have go : ∀ (T : String), TyX X.K H x (.type T) → kitB T (tyN t) = some r → wpAny (model X.prog X.w) X.A (call (.builtin "isinstance") us) (EP X pins σ Q) X.xe s := fun T h1 h2 =>
    call_isi pins s σ H _ us Q I rv ⟨x, .ty (tyN t), .type T, .type (tyN t), r, rfl, .ty _, h1, kit_ty h2, k⟩
  cases d with
  | none =>
    cases hx.non
    refine go "NoneType" (.base .non) ?_
    cases t <;> (simp only [pisi] at hf; cases hf; decide +kernel)
  | bool b =>
    cases hx.bool
    refine go "bool" (.base (.bl _)) ?_
    cases t <;> (simp only [pisi] at hf; cases hf; decide +kernel)
  | int b =>
    cases hx.int
    refine go "int" (.base (.int _)) ?_
    cases t <;> (simp only [pisi] at hf; cases hf; decide +kernel)
  | str b =>
    cases hx.str
    refine go "str" (.base (.str _)) ?_
    cases t <;> (simp only [pisi] at hf; cases hf; decide +kernel)
  | list b =>
    obtain ⟨a, ys, rfl, ha, ra⟩ := hx.lst
    refine go "list" (.base (.lst ha)) ?_
    cases t <;> (simp only [pisi] at hf; cases hf; decide +kernel)
  | tuple b =>
    obtain ⟨a, ys, rfl, ha, ra⟩ := hx.tup
    refine go "tuple" (.base (.tup ha)) ?_
    cases t <;> (simp only [pisi] at hf; cases hf; decide +kernel)
  | dict b => cases t <;> (simp only [pisi] at hf; cases hf)

/-! ### in -/
theorem opr_in (hu : X.A.units + 80 < cLine) : OpR X (compareOp .In) (rC X.K X.prog X.w (pcmp .isin)) := by
  rintro pins s σ H x y v u Q I rv ru ⟨M, d, e, r, mh, hx, hy, hf, k⟩
  simp only [pcmp] at hf
  cases e with
  | list ds =>
    simp only [pin] at hf
    split at hf
    · rename_i h
      rw [Bool.and_eq_true] at h
      cases hf
      exact op_inD (by omega) pins s σ H x y v u Q I rv ru ⟨d, ds, hx.dp (nd_lay _ (SeqAt.canLay_of_shaped h.1)), hy.dp (nd_lay _ (SeqAt.canLay_of_shaped h.2)), h.1, h.2, by rw [← inData_any]; exact k _ (Sm.refl _)⟩
    · cases hf
  | tuple ds =>
    simp only [pin] at hf
    split at hf
    · rename_i h
      rw [Bool.and_eq_true] at h
      cases hf
      obtain ⟨as, r1⟩ := Dp.reads I d x v (hx.dp (nd_lay _ (SeqAt.canLay_of_shaped h.1))) rv
      obtain ⟨bs, r2⟩ := Dp.reads I (.tuple ds) y u (hy.dp (nd_lay _ (SeqAt.canLay_of_shaped h.2))) ru
      have hdp : d.depth ≤ 64 := SeqAt.depth_of_shaped h.1
      refine SeqAt.in_tuple_reads r2 r1 (SeqAt.canLay_of_shaped h.2) (SeqAt.canLay_of_shaped h.1) ?_ ⟨.bl _, H, I, rfl, by rw [← inData_any]; exact k _ (Sm.refl _)⟩
      have : min (PyData.depthAll ds) d.depth ≤ d.depth := Nat.min_le_right _ _
      omega
    · cases hf
  | dict kvs => exact in_dict hu pins s σ H x y v u Q I rv ru ⟨M, d, .dict kvs, r, mh, hx, hy, hf, k⟩
  | _ => simp only [pin] at hf; cases hf
theorem opr_nin (hu : X.A.units + 80 < cLine) : OpR X (compareOp .NotIn) (rC X.K X.prog X.w (pcmp .nin)) := by
  rintro pins s σ H x y v u Q I rv ru ⟨M, d, e, r, mh, hx, hy, hf, k⟩
  simp only [pcmp] at hf
  cases e with
  | list ds =>
    simp only [pin] at hf
    split at hf
    · rename_i h
      rw [Bool.and_eq_true] at h
      cases hf
      exact op_notInD (by omega) pins s σ H x y v u Q I rv ru ⟨d, ds, hx.dp (nd_lay _ (SeqAt.canLay_of_shaped h.1)), hy.dp (nd_lay _ (SeqAt.canLay_of_shaped h.2)), h.1, h.2, by rw [← inData_any]; exact k _ (Sm.refl _)⟩
    · cases hf
  | tuple ds =>
    simp only [pin] at hf
    split at hf
    · rename_i h
      rw [Bool.and_eq_true] at h
      cases hf
      obtain ⟨as, r1⟩ := Dp.reads I d x v (hx.dp (nd_lay _ (SeqAt.canLay_of_shaped h.1))) rv
      obtain ⟨bs, r2⟩ := Dp.reads I (.tuple ds) y u (hy.dp (nd_lay _ (SeqAt.canLay_of_shaped h.2))) ru
      have hdp : d.depth ≤ 64 := SeqAt.depth_of_shaped h.1
      refine SeqAt.notIn_tuple_reads r2 r1 (SeqAt.canLay_of_shaped h.2) (SeqAt.canLay_of_shaped h.1) ?_ ⟨.bl _, H, I, rfl, by rw [← inData_any]; exact k _ (Sm.refl _)⟩
      have : min (PyData.depthAll ds) d.depth ≤ d.depth := Nat.min_le_right _ _
      omega
    · cases hf
  | dict kvs => exact nin_dict hu pins s σ H x y v u Q I rv ru ⟨M, d, .dict kvs, r, mh, hx, hy, hf, k⟩
  | _ => simp only [pin] at hf; cases hf
def copOf : Cop → CmpOp
  | .eq => .Eq | .ne => .NotEq | .lt => .Lt | .le => .LtE | .gt => .Gt | .ge => .GtE | .is => .Is | .nis => .IsNot | .isin => .In | .nin => .NotIn
theorem opr_cmp (hu : X.A.units + 80 < cLine) (op : Cop) : OpR X (compareOp (copOf op)) (rC X.K X.prog X.w (pcmp op)) := by
  cases op
  · exact opr_eq (by omega)
  · exact opr_ne (by omega)
  · exact opr_lt
  · exact opr_le
  · exact opr_gt
  · exact opr_ge
  · exact opr_is
  · exact opr_nis
  · exact opr_in hu
  · exact opr_nin hu
end
end Iv
end

section
/-! Iv4: when an E is the text of an expression; then the machine's answer is the evaluator's. -/
namespace Iv
open PySem L2 PyProof.Rows
variable [Tb]

/-- what is known of the module's names: its defs, the built-ins left as they are, its constants -/
structure GI where
  fns : List Str
  blt : List Str
  con : List (Str × PyData)
  /-- may lambdas be made here -/
  lam : Bool := false

/-! ### the text -/
def isGl (sc : Scope) (x : Str) : Bool := decide (sc.names.lookup x = some .globalImplicit)
def isVis (sc : Scope) (x : Str) : Bool := decide (sc.names.lookup x = some .local) || decide (sc.names.lookup x = some .cell) || decide (sc.names.lookup x = some .free)
def isLoc (sc : Scope) (x : Str) : Bool := decide (sc.names.lookup x = some .local) || decide (sc.names.lookup x = some .cell)
def okN (x : Str) : Bool := !(x == ("__debug__" : Str)) && !(x == ("__classdict__" : Str)) && !(x == ("__name__" : Str))
def notStar : Expr → Bool
  | .Starred .. => false
  | _ => true
def notSlice : Expr → Bool
  | .Slice .. => false
  | _ => true
def notSet : Expr → Bool
  | .Set .. => false
  | _ => true
def plainT : Expr → Bool
  | .Call .. => true
  | .Name .. => true
  | .Subscript .. => true
  | .Constant .. => true
  | _ => false
def plainB : Expr → Bool
  | .Name .. => true
  | .Subscript .. => true
  | .Constant .. => true
  | .Call _ (_ :: _) _ _ => true
  | _ => false
def constEq : Const → PyData → Bool
  | .none, .none => true
  | .bool a, .bool b => a == b
  | .int a, .int b => decide (a = b)
  | .str a, .str b => decide (a = b)
  | _, _ => false
def flatEq : PyData → PyData → Bool
  | .int a, .int b => decide (a = b)
  | .str a, .str b => decide (a = b)
  | _, _ => false
def biName : Bi → Str
  | .len => "len" | .abs => "abs" | .min => "min" | .max => "max" | .sum => "sum" | .all => "all" | .any => "any" | .sorted => "sorted" | .tuple => "tuple" | .list => "list" | .int => "int" | .str => "str" | .dict => "dict"
def meName : Me → Str
  | .index => "index" | .count => "count" | .get => "get" | .items => "items"
def tyName : Ty → Str
  | .int => "int" | .bool => "bool" | .tuple => "tuple" | .str => "str"
def ownOf (N : List Str) (vs : List Nat) : List (Str × Nat) := vs.map fun i => (N.getD i Str.empty, i)
/-- a call of a known built-in by name -/
def isBlt (G : GI) (sc : Scope) (x : Str) : Bool := decide (x ∈ G.blt) && isGl sc x && okN x

mutual
/-- targets: slots at vs alone (a comprehension's own), or any -/
def chkT (N : List Str) (sc : Scope) (fs : Str → Bool) (vs : Option (List Nat)) : T → Expr → Bool
  | .nm i, e => match e with
    | .Name x _ => decide (N[i]? = some x) && isLoc sc x && (fs x || decide (sc.names.lookup x = some .local)) && (match vs with | some l => decide (i ∈ l) | none => true)
    | _ => false
  | .tup ts, e => match e with
    | .Tuple es _ _ => chkTs N sc fs vs ts es
    | _ => false
def chkTs (N : List Str) (sc : Scope) (fs : Str → Bool) (vs : Option (List Nat)) : Ts → List Expr → Bool
  | .nil, es => match es with
    | [] => true
    | _ => false
  | .cons t ts, es => match es with
    | e :: r => notStar e && chkT N sc fs vs t e && chkTs N sc fs vs ts r
    | _ => false
end

mutual
def chkE (G : GI) (N : List Str) : E → Scope → Expr → Bool
  | .c d, _, e => match e with
    | .Constant c _ _ => constEq c d
    | _ => false
  | .v i, sc, e => match e with
    | .Name x _ => decide (N[i]? = some x) && isVis sc x && okN x
    | _ => false
  | .g x d, sc, e => match e with
    | .Name y _ => decide (y = x) && isGl sc x && okN x && (G.con.any fun p => decide (p.1 = x) && flatEq p.2 d)
    | _ => false
  | .bin op a b, sc, e => match e with
    | .BinOp l o r _ => decide (o = opOf op) && chkE G N a sc l && chkE G N b sc r
    | _ => false
  | .neg a, sc, e => match e with
    | .UnaryOp .USub x _ => chkE G N a sc x
    | _ => false
  | .cmp op a b, sc, e => match e with
    | .Compare l [o] [r] _ => decide (o = copOf op) && chkE G N a sc l && chkE G N b sc r && notSet r
    | _ => false
  | .chain o1 o2 a b c, sc, e => match e with
    | .Compare l [p, q] [r, s] _ => decide (p = copOf o1) && decide (q = copOf o2) && chkE G N a sc l && chkE G N b sc r && chkE G N c sc s && notSet s
    | _ => false
  | .and a b, sc, e => match e with
    | .BoolOp .And (x :: y :: rest) pos => chkE G N a sc x && (match rest with | [] => chkE G N b sc y | _ :: _ => chkE G N b sc (.BoolOp .And (y :: rest) pos))
    | _ => false
  | .or a b, sc, e => match e with
    | .BoolOp .Or (x :: y :: rest) pos => chkE G N a sc x && (match rest with | [] => chkE G N b sc y | _ :: _ => chkE G N b sc (.BoolOp .Or (y :: rest) pos))
    | _ => false
  | .not a, sc, e => match e with
    | .UnaryOp .Not x _ => chkE G N a sc x
    | _ => false
  | .ix a b, sc, e => match e with
    | .Subscript l r _ => notSlice r && chkE G N a sc l && chkE G N b sc r
    | _ => false
  | .sl a lo hi, sc, e => match e with
    | .Subscript l (.Slice x y none _) _ => chkE G N a sc l && chkO G N lo sc x && chkO G N hi sc y
    | _ => false
  | .rev a, sc, e => match e with
    | .Subscript l (.Slice none none (some (.UnaryOp .USub (.Constant (.int 1) _ _) _)) _) _ => false && chkE G N a sc l
    | _ => false
  | .tup es, sc, e => match e with
    | .Tuple xs _ _ => chkEs G N es sc xs && decide (xs.length ≤ 1000)
    | _ => false
  | .lst es, sc, e => match e with
    | .List xs _ => chkEs G N es sc xs && decide (xs.length ≤ 1000)
    | _ => false
  | .dnew _, _, e => match e with
    | .Dict [] [] _ => true
    | _ => false
  | .d1 k v, sc, e => match e with
    | .Dict [some ke] [ve] _ => chkE G N k sc ke && chkE G N v sc ve
    | _ => false
  | .comp t s c b vs, sc, e => match e with
    | .ListComp elt [⟨tg, iter, ifs, 0⟩] scope _ => blkC N sc scope (ownOf N vs) && chkT N (relS scope sc) (fun x => decide (scope.names.lookup x = some .cell)) (some vs) t tg
        && (match s with | .own i => (match iter with | .Name x _ => decide (N[i]? = some x) && isVis sc x && okN x | _ => false) | _ => chkS G N s sc tg iter) && chkC G N c (relS scope sc) ifs && chkE G N b (relS scope sc) elt && notSet iter
    | _ => false
  | .call x es, sc, e => match e with
    | .Call (.Name y _) (a :: r) [] _ => decide (y = x) && decide (x ∈ G.fns) && isGl sc x && okN x && chkEs G N es sc (a :: r)
    | _ => false
  | .bi b es, sc, e => match e with
    | .Call (.Name y _) (a :: r) [] _ => decide (y = biName b) && isBlt G sc y && chkEs G N es sc (a :: r)
    | _ => false
  | .rng tp a, sc, e => match e with
    | .Call (.Name y _) [.Call (.Name z _) [x] [] _] [] _ => decide (y = if tp then "tuple" else "list") && isBlt G sc y && decide (z = "range") && isBlt G sc z && notStar x && chkE G N a sc x
    | _ => false
  | .srtSet a, sc, e => match e with
    | .Call (.Name y _) [.Call (.Name z _) [x] [] _] [] _ => decide (y = "sorted") && isBlt G sc y && decide (z = "set") && isBlt G sc z && notStar x && chkE G N a sc x
    | _ => false
  | .lenSet a, sc, e => match e with
    | .Call (.Name y _) [.Call (.Name z _) [x] [] _] [] _ => decide (y = "len") && isBlt G sc y && decide (z = "set") && isBlt G sc z && notStar x && chkE G N a sc x
    | _ => false
  | .told a, sc, e => match e with
    | .Call (.Name y _) [.Lambda _ be scope _] [] _ => false && chkE { G with lam := false } N a scope be
    | _ => false
  | .srtItems a, sc, e => match e with
    | .Call (.Name y _) [.Call (.Attribute x name apos) [] [] cpos] [] _ => false && chkE G N a sc x
    | _ => false
  | .meth m o es, sc, e => match e with
    | .Call (.Attribute x name apos) (a :: r) [] cpos => (decide (m = .index) || decide (m = .count) || decide (m = .get)) && decide (name = meName m) && (apos.endLine == cpos.line) && plainB x && chkE G N o sc x && chkEs G N es sc (a :: r) && decide (r.length < 20)
    | _ => false
  | .isi a t, sc, e => match e with
    | .Call (.Name y _) [x, .Name z _] [] _ => decide (y = "isinstance") && isBlt G sc y && decide (z = tyName t) && isBlt G sc z && notStar x && chkE G N a sc x
    | _ => false
  | .srtKey a i b, sc, e => match e with
    | .Call (.Name y _) [.Call (.Name z _) [x] [] _] [⟨some kn, .Lambda ⟨[], [⟨p, none, _⟩], none, [], [], none, []⟩ be scope _, _⟩] _ => G.lam && decide (y = "sorted") && isBlt G sc y && decide (z = "range") && isBlt G sc z && notStar x && chkE G N a sc x
        && decide (kn = "key") && decide (p = "_law_one") && decide (N[i]? = some p) && lamPB sc scope p && chkE { G with lam := false } N b scope be
    | _ => false
def chkEs (G : GI) (N : List Str) : Es → Scope → List Expr → Bool
  | .nil, _, es => match es with
    | [] => true
    | _ => false
  | .cons a r, sc, es => match es with
    | e :: l => notStar e && chkE G N a sc e && chkEs G N r sc l
    | _ => false
def chkO (G : GI) (N : List Str) : Oe → Scope → Option Expr → Bool
  | .no, _, o => match o with
    | none => true
    | _ => false
  | .so a, sc, o => match o with
    | some e => chkE G N a sc e
    | _ => false
def chkC (G : GI) (N : List Str) : Oe → Scope → List Expr → Bool
  | .no, _, o => match o with
    | [] => true
    | _ => false
  | .so a, sc, o => match o with
    | [e] => chkB G N a sc e
    | _ => false
def chkS (G : GI) (N : List Str) : Src → Scope → Expr → Expr → Bool
  | .e a, sc, _, e => chkE G N a sc e
  | .own _, _, _, _ => false
  | .r1 a, sc, _, e => match e with
    | .Call (.Name z _) [x] [] _ => decide (z = "range") && isBlt G sc z && notStar x && chkE G N a sc x
    | _ => false
  | .r2 a b, sc, _, e => match e with
    | .Call (.Name z _) [x, y] [] _ => decide (z = "range") && isBlt G sc z && notStar x && notStar y && chkE G N a sc x && chkE G N b sc y
    | _ => false
  | .r3 a b c, sc, _, e => match e with
    | .Call (.Name z _) [x, y, u] [] _ => decide (z = "range") && isBlt G sc z && notStar x && notStar y && notStar u && chkE G N a sc x && chkE G N b sc y && chkE G N c sc u
    | _ => false
  | .enum a, sc, tg, e => (match tg with | .Tuple .. => true | _ => false) && match e with
    | .Call (.Name z _) [x] [] _ => decide (z = "enumerate") && isBlt G sc z && notStar x && chkE G N a sc x
    | _ => false
  | .zip a b, sc, tg, e => (match tg with | .Tuple .. => true | _ => false) && match e with
    | .Call (.Name z _) [x, y] [] _ => decide (z = "zip") && isBlt G sc z && notStar x && notStar y && chkE G N a sc x && chkE G N b sc y
    | _ => false
/-- a test -/
def chkB (G : GI) (N : List Str) : E → Scope → Expr → Bool
  | .cmp op a b, sc, e => match e with
    | .Compare l [o] [r] _ => decide (o = copOf op) && chkE G N a sc l && chkE G N b sc r && notSet r
    | _ => false
  | .chain o1 o2 a b c, sc, e => match e with
    | .Compare l [p, q] [r, s] _ => decide (p = copOf o1) && decide (q = copOf o2) && chkE G N a sc l && chkE G N b sc r && chkE G N c sc s && notSet s
    | _ => false
  | .and a b, sc, e => match e with
    | .BoolOp .And (x :: y :: rest) pos => chkB G N a sc x && (match rest with | [] => chkB G N b sc y | _ :: _ => chkB G N b sc (.BoolOp .And (y :: rest) pos))
    | _ => false
  | .or a b, sc, e => match e with
    | .BoolOp .Or (x :: y :: rest) pos => chkB G N a sc x && (match rest with | [] => chkB G N b sc y | _ :: _ => chkB G N b sc (.BoolOp .Or (y :: rest) pos))
    | _ => false
  | .not a, sc, e => match e with
    | .UnaryOp .Not x _ => chkB G N a sc x
    | _ => false
  | .v i, sc, e => match e with
    | .Name x _ => decide (N[i]? = some x) && isVis sc x && okN x
    | _ => false
  | .call x es, sc, e => match e with
    | .Call (.Name y _) (a :: r) [] _ => decide (y = x) && decide (x ∈ G.fns) && isGl sc x && okN x && chkEs G N es sc (a :: r)
    | _ => false
  | .bi b es, sc, e => match e with
    | .Call (.Name y _) (a :: r) [] _ => decide (y = biName b) && isBlt G sc y && chkEs G N es sc (a :: r)
    | _ => false
  | .isi a t, sc, e => match e with
    | .Call (.Name y _) [x, .Name z _] [] _ => decide (y = "isinstance") && isBlt G sc y && decide (z = tyName t) && isBlt G sc z && notStar x && chkE G N a sc x
    | _ => false
  | _, _, _ => false
end

/-! ### small facts of the text -/
theorem star_of {e : Expr} {es : List Expr} {env : PySem.Env} (h : notStar e = true) : starEach (e :: es) env = (false, eval e env) :: starEach es env := by
  cases e <;> first | rfl | cases h
theorem plainT_of {e : Expr} {env : PySem.Env} (h : plainT e = true) : ∀ whole, isTrue e env whole = (do let v ← whole; standAt e.pos; holding [v] (truthy v)) := by
  cases e <;> first | (cases h; done) | (intro _; rfl)
theorem plainB_of {e : Expr} {nm : Str} {env : PySem.Env} (h : plainB e = true) : attributeBase e nm env (eval e env) = eval e env := by
  cases e <;> first | (cases h; done) | rfl | skip
  rename_i f args kws pos
  cases args with
  | nil => cases h
  | cons a r => cases f <;> rfl
theorem slice_of {e : Expr} (h : notSlice e = true) : PlainIx e := by
  intro o i
  cases e <;> first | rfl | cases h
theorem set_of {e : Expr} {env : PySem.Env} (h : notSet e = true) : ∀ x, foldedSetIterable e env x = pure x := by
  intro x
  cases e <;> first | rfl | cases h
theorem mark_of {op : CmpOp} {e : Expr} (h : notSet e = true) : behindInMarks op e = false := by
  cases e <;> first | rfl | cases h
theorem lmark_of {p q : CmpOp} {r s : Expr} (h : notSet s = true) : lastMarks [p, q] [r, s] = false := by
  show behindInMarks q s = false
  exact mark_of h
theorem okN_of {x : Str} (h : okN x = true) : (x == ("__debug__" : Str)) = false ∧ (x == ("__classdict__" : Str)) = false ∧ x ≠ ("__name__" : Str) := by
  unfold okN at h
  simp only [Bool.and_eq_true, Bool.not_eq_true'] at h
  exact ⟨h.1.1, h.1.2, fun e => by rw [e] at h; simp at h⟩
theorem isVis_of {sc : Scope} {x : Str} (h : isVis sc x = true) : Vis sc x := by
  unfold isVis at h
  simp only [Bool.or_eq_true, decide_eq_true_eq] at h
  rcases h with (h | h) | h
  · exact .inl h
  · exact .inr (.inl h)
  · exact .inr (.inr h)
theorem isLoc_of {sc : Scope} {x : Str} (h : isLoc sc x = true) : Loc sc x := by
  unfold isLoc at h
  simp only [Bool.or_eq_true, decide_eq_true_eq] at h
  exact h

/-! ### answers at a heap -/
def RP {α : Type} (xc : Nat → Value) (E : XK) (H : Hp) (r : R α) (k : α → Prop) : Prop := match r with
  | .ok a => k a
  | .exc c => ∀ H', Sm H H' → E (xc c) none H'
  | .bad => False
theorem RP.bind {α β : Type} {xc : Nat → Value} {E : XK} {H : Hp} {r : R α} {f : α → R β} {k : β → Prop} (h : RP xc E H (r.bind f) k) : RP xc E H r fun a => RP xc E H (f a) k := by
  cases r <;> exact h
theorem RP.sm {α : Type} {xc : Nat → Value} {E : XK} {H H' : Hp} {r : R α} {k : α → Prop} (s : Sm H H') (h : RP xc E H r k) : RP xc E H' r k := by
  cases r with
  | ok a => exact h
  | exc c => exact fun H2 s2 => h H2 (s.trans s2)
  | bad => exact h
theorem RP.imp {α : Type} {xc : Nat → Value} {E : XK} {H : Hp} {r : R α} {k k' : α → Prop} (h : RP xc E H r k) (q : ∀ a, r = .ok a → k a → k' a) : RP xc E H r k' := by
  cases r with
  | ok a => exact q a rfl h
  | exc c => exact h
  | bad => exact h
theorem RP.nox {α : Type} {xc xc' : Nat → Value} {E E' : XK} {H : Hp} {r : R α} {k : α → Prop} (h : RP xc E H r.nox k) : RP xc' E' H r k := by
  cases r with
  | ok a => exact h
  | exc c => exact (show False from h).elim
  | bad => exact (show False from h).elim

/-- what a def does -/
def spOf (K : PySem.W.Frag) (P : Program) (w : World) (xc : Nat → Value) (n : Nat) (f : List PyData → R PyData) : Sp := fun vs H Q E => vs.length = n ∧ ∃ M ds, Mh H M ∧ LamX.Tabs Tb.T H ∧ RpA K P w H M vs ds ∧
  RP xc E H (f ds) fun d => ∀ v H', Sm H H' → Rp K P w H' M v d → Q v H'

/-- what the making of a lambda asks -/
def LamC (X : Cx) : Prop := ∃ c P, LamX.TabB X.base X.mg c P ∧ X.env.code = .ref c ∧ (P, X.env.qual ++ "<lambda>") ∈ Tb.T ∧ ∀ p ∈ Tb.T, p.1 = P → p.2 = X.env.qual ++ "<lambda>"
/-- where an expression stands -/
structure Cxt (G : GI) (F : Str → List PyData → R PyData) (k : Nat) (xc : Nat → Value) (N : List Str) (sc : Scope) (fs : Str → Bool) (E : XK) (X : Cx) : Prop where
  names : X.N = N
  nd : N.Nodup
  scope : X.env.scope = sc
  calm : X.calm = true
  fnb : ∀ x, fs x = true → X.fn x = true
  fns : ∀ x ∈ G.fns, ∃ f fd ps, X.mg x = some (.ref f) ∧ PySem.W.keepIn X.K (.ref f) = true ∧ Binds X.K fd ps [] ∧ (∀ ds, F x ds ≠ .bad → ds.length = ps.length) ∧ FnOk X.prog X.w X.K X.mg X.base (L2.CX X.prog X.w) k f fd ps (spOf X.K X.prog X.w xc ps.length (F x))
  blt : ∀ x ∈ G.blt, X.mg x = none
  con : ∀ p ∈ G.con, ∃ v u, X.mg p.1 = some u ∧ RelV v u ∧ ∀ (K : PySem.W.Frag) (P : Program) (w : World) (H : Hp) (M : Addr → Prop), Rp K P w H M v p.2
  room : Room (k + if G.lam then 1 else 0) X.A
  lam : G.lam = true → LamC X
  pass : Passes (L2.CX X.prog X.w) X E

section
variable {G : GI} {F : Str → List PyData → R PyData} {k : Nat} {xc : Nat → Value} {N : List Str} {sc : Scope} {fs : Str → Bool} {E : XK} {X : Cx}
theorem Cxt.gl (c : Cxt G F k xc N sc fs E X) {x : Str} (h : isGl sc x = true) : Gl X x := by
  have h' : sc.names.lookup x = some .globalImplicit := of_decide_eq_true h
  rw [← c.scope] at h'
  exact h'
theorem Cxt.blt' (c : Cxt G F k xc N sc fs E X) {x : Str} (h : isBlt G sc x = true) : Gl X x ∧ X.mg x = none ∧ x ≠ ("__name__" : Str) ∧ (x == ("__debug__" : Str)) = false := by
  unfold isBlt at h
  simp only [Bool.and_eq_true, decide_eq_true_eq] at h
  obtain ⟨⟨h1, h2⟩, h3⟩ := h
  obtain ⟨a, b, d⟩ := okN_of h3
  exact ⟨c.gl h2, c.blt x h1, d, a⟩
theorem Cxt.hu (c : Cxt G F k xc N sc fs E X) : X.A.units + 199 < cLine := by
  have := c.room.un
  omega
theorem Cxt.room0 (c : Cxt G F k xc N sc fs E X) : Room k X.A := c.room.mono (Nat.le_add_right k _)
theorem Cxt.blk (c : Cxt G F k xc N sc fs E X) (s : Shared) (H : Hp) (scope : Scope) (C : Addr) (cl : List (Str × Addr)) (fp : List Addr) :
    Cxt G F k xc N (relS scope sc) (fun x => decide (scope.names.lookup x = some .cell)) E0 (X.blk s H scope (compEnvC scope cl C X.env) fp) where
  names := c.names
  nd := c.nd
  scope := by rw [← c.scope]; rfl
  calm := c.calm
  fnb := fun x h => by
    have h' : scope.names.lookup x = some .cell := of_decide_eq_true h
    show (scope.names.lookup x == some .cell) = true
    rw [h']; rfl
  fns := c.fns
  blt := c.blt
  con := c.con
  room := c.room
  lam := c.lam
  pass := passL
end

/-! ### readings -/
abbrev Post := Hp → (Addr → Prop) → Hp → V → PyData → Prop
section
variable (K : PySem.W.Frag) (P : Program) (w : World)
def pS : Post := fun _ M H' v d => Rp K P w H' M v d
def pR : Post := fun _ M H' v d => RpR K P w H' M v d
def pO : Post := fun H M H' v d => ∃ p, v = .ref p ∧ nn H p ∧ RpO K P w H' (fun a => M a ∨ a = p) p d
def tEv (xc : Nat → Value) (E : XK) (f : Env → R PyData) (post : Post) : TE := fun σ H Q => ∃ Pn M0 M ρ, SIv K P w Pn M0 M σ H ρ ∧ RP xc E H (f ρ) fun d => ∀ v H', Sm H H' → post H M H' v d → Q v H'
def tEvB (xc : Nat → Value) (E : XK) (f : Env → R Bool) : TT := fun σ H Q => ∃ Pn M0 M ρ, SIv K P w Pn M0 M σ H ρ ∧ RP xc E H (f ρ) fun b => ∀ H', Sm H H' → Q b H'
def tEvs (xc : Nat → Value) (E : XK) (f : Env → R (List PyData)) : TA := fun σ H Q => ∃ Pn M0 M ρ, SIv K P w Pn M0 M σ H ρ ∧ RP xc E H (f ρ) fun ds => ∀ vs H', Sm H H' → RpA K P w H' M vs ds → Q vs H'
def tEvr (xc : Nat → Value) (E : XK) (f : Env → R (List PyData)) : TA := fun σ H Q => ∃ Pn M0 M ρ, SIv K P w Pn M0 M σ H ρ ∧ RP xc E H (f ρ) fun ds => ∀ vs H', Sm H H' → Paired (RpR K P w H' M) vs ds → Q vs H'
def tEvo (xc : Nat → Value) (E : XK) (f : Env → R (Option Int)) : TO := fun σ H Q => ∃ Pn M0 M ρ, SIv K P w Pn M0 M σ H ρ ∧ RP xc E H (f ρ) fun o => ∀ H', Sm H H' → Q o H'
/-- what is walked yields the data one after another, whatever is done meanwhile to what is not frozen -/
def ItOk (J : It) (H1 : Hp) (M : Addr → Prop) (xs : List PyData) : Prop := ∀ H2, (∀ b o, H1 b = some o → nt o → ¬ M b → H2 b = some o) → ∀ i, (i = xs.length → J.stop i H2) ∧ ∀ d, xs[i]? = some d → J.go i H2 ∧
  ∀ x H3, J.yld i H2 x H3 → Sm H2 H3 ∧ ∀ M' : Addr → Prop, (∀ a, M' a → M a ∨ nn H1 a) → Mh H2 M' → Rp K P w H3 M' x d
/-- the same, where all that stands stays -/
def ItOkC (J : It) (H1 : Hp) (M : Addr → Prop) (xs : List PyData) : Prop := ∀ H2, Sm H1 H2 → ∀ i, (i = xs.length → J.stop i H2) ∧ ∀ d, xs[i]? = some d → J.go i H2 ∧
  ∀ x H3, J.yld i H2 x H3 → Sm H2 H3 ∧ ∀ M' : Addr → Prop, (∀ a, M' a → M a ∨ nn H1 a) → Mh H2 M' → Rp K P w H3 M' x d
theorem ItOk.c {J : It} {H1 : Hp} {M : Addr → Prop} {xs : List PyData} (h : ItOk K P w J H1 M xs) : ItOkC K P w J H1 M xs := fun H2 s => h H2 fun b o e n _ => s.st b o e n
def tEvSC (xc : Nat → Value) (E : XK) (f : Env → R (List PyData)) : TI := fun σ H Q => ∃ Pn M0 M ρ, SIv K P w Pn M0 M σ H ρ ∧ RP xc E H (f ρ) fun ds => ∀ J H', Sm H H' → ItOkC K P w J H' M ds → Q J H'
def tEvS (xc : Nat → Value) (E : XK) (f : Env → R (List PyData)) : TI := fun σ H Q => ∃ Pn M0 M ρ, SIv K P w Pn M0 M σ H ρ ∧ RP xc E H (f ρ) fun ds => ∀ J H', Sm H H' → ItOk K P w J H' M ds → Q J H'
end
/-- is the answer an object of its own -/
def fr : Iv.E → Bool
  | .lst _ => true
  | .comp .. => true
  | .dnew _ => true
  | .d1 .. => true
  | .bi .list _ => true
  | .bi .sorted _ => true
  | .srtSet _ => true
  | .srtKey .. => true
  | .rng false _ => true
  | _ => false
def pst (K : PySem.W.Frag) (P : Program) (w : World) (e : Iv.E) : Post := if fr e then pO K P w else pS K P w

section
variable {K : PySem.W.Frag} {P : Program} {w : World} {xc : Nat → Value} {E : XK} {f : Env → R PyData} {X : Cx} {e : Expr}
theorem pO.pS {H : Hp} {M : Addr → Prop} {H' : Hp} {v : V} {d : PyData} (m : Mh H M) (h : pO K P w H M H' v d) : Rp K P w H' M v d := by
  obtain ⟨p, rfl, hp, h⟩ := h
  refine (h.to (M' := M) (fun _ _ e _ _ => e) (fun a z => .inl (.inl z)) fun _ e _ => e).frozen (m.new hp)
theorem pst.pS {H : Hp} {M : Addr → Prop} {H' : Hp} {v : V} {d : PyData} {ir : Iv.E} (m : Mh H M) (h : pst K P w ir H M H' v d) : Rp K P w H' M v d := by
  unfold pst at h
  split at h
  · exact pO.pS m h
  · exact h
theorem PE.mono {t t' : TE} (h : PE X e t) (q : ∀ σ H Q, t' σ H Q → t σ H Q) : PE X e t' := ⟨fun pins s σ H Q I hh => h.run pins s σ H Q I (q σ H Q hh)⟩
theorem PT.mono {t t' : TT} (h : PT X e t) (q : ∀ σ H Q, t' σ H Q → t σ H Q) : PT X e t' := ⟨fun pins s σ H Q I hh => h.run pins s σ H Q I (q σ H Q hh)⟩
theorem tEv.weak {post post' : Post} (q : ∀ H M H' v d, Mh H M → post H M H' v d → post' H M H' v d) {σ : L2.St} {H : Hp} {Q : VK} (h : tEv K P w xc E f post' σ H Q) : tEv K P w xc E f post σ H Q := by
  obtain ⟨Pn, M0, M, ρ, I, h⟩ := h
  exact ⟨Pn, M0, M, ρ, I, h.imp fun d _ h v H' s p => h v H' s (q H M H' v d I.mh p)⟩
theorem pe_weak {post post' : Post} (h : PE X e (tEv K P w xc E f post)) (q : ∀ H M H' v d, Mh H M → post H M H' v d → post' H M H' v d) : PE X e (tEv K P w xc E f post') := PE.mono h fun _ _ _ z => tEv.weak q z
/-- a strict reading of an expression whose answer is a truth, as a test -/
theorem pt_plain (h : PE X e (tEv K P w xc E f (pS K P w))) (hp : plainT e = true) : PT X e (tEvB K P w xc E fun ρ => (f ρ).bind asB) := by
  refine PT.mono (pt_val h (plainT_of hp)) ?_
  rintro σ H Q ⟨Pn, M0, M, ρ, I, h⟩
  refine ⟨Pn, M0, M, ρ, I, h.bind.imp fun d _ h v H' s p => ?_⟩
  cases d with
  | bool b =>
    cases p
    exact ⟨b, rfl, h H' s⟩
  | _ => exact (show False from h).elim
end

/-- THE MEANING of an E -/
structure Sem (G : GI) (F : Str → List PyData → R PyData) (k : Nat) (xc : Nat → Value) (N : List Str) (ir : Iv.E) : Prop where
  st : ∀ {sc : Scope} {fs : Str → Bool} {E : XK} {X : Cx} {e : Expr}, Cxt G F k xc N sc fs E X → chkE G N ir sc e = true → PE X e (tEv X.K X.prog X.w xc E (ev F false ir) (pst X.K X.prog X.w ir))
  rd : ∀ {sc : Scope} {fs : Str → Bool} {E : XK} {X : Cx} {e : Expr}, Cxt G F k xc N sc fs E X → chkE G N ir sc e = true → PE X e (tEv X.K X.prog X.w xc E (ev F true ir) (pR X.K X.prog X.w))
  te : ∀ {sc : Scope} {fs : Str → Bool} {E : XK} {X : Cx} {e : Expr}, Cxt G F k xc N sc fs E X → chkB G N ir sc e = true → PT X e (tEvB X.K X.prog X.w xc E fun ρ => (ev F false ir ρ).bind asB)

section
variable {G : GI} {F : Str → List PyData → R PyData} {k : Nat} {xc : Nat → Value} {N : List Str}
/-- where reading alone makes no difference, and a test is a plain one, or none -/
theorem Sem.mk1 {ir : Iv.E} (hm : ∀ ρ, ev F true ir ρ = ev F false ir ρ)
    (st : ∀ {sc : Scope} {fs : Str → Bool} {E : XK} {X : Cx} {e : Expr}, Cxt G F k xc N sc fs E X → chkE G N ir sc e = true → PE X e (tEv X.K X.prog X.w xc E (ev F false ir) (pst X.K X.prog X.w ir)))
    (hb : ∀ sc e, chkB G N ir sc e = true → plainT e = true ∧ chkE G N ir sc e = true) : Sem G F k xc N ir where
  st := st
  rd := fun c h => by
    have e : ev F true ir = ev F false ir := funext hm
    rw [e]
    exact pe_weak (st c h) fun H M H' v d m p => .inl (pst.pS m p)
  te := fun c h => by
    obtain ⟨h1, h2⟩ := hb _ _ h
    exact pt_plain (pe_weak (st c h2) fun H M H' v d m p => pst.pS m p) h1
theorem Sem.ss {ir : Iv.E} (h : Sem G F k xc N ir) {sc : Scope} {fs : Str → Bool} {E : XK} {X : Cx} {e : Expr} (c : Cxt G F k xc N sc fs E X) (q : chkE G N ir sc e = true) : PE X e (tEv X.K X.prog X.w xc E (ev F false ir) (pS X.K X.prog X.w)) :=
  pe_weak (h.st c q) fun H M H' v d m p => pst.pS m p

/-! ### one by one -/
theorem sem_c (d : PyData) : Sem G F k xc N (.c d) := by
  refine Sem.mk1 (fun _ => rfl) (fun {sc fs E X e} c h => ?_) fun _ _ h => by simp [chkB] at h
  unfold chkE at h
  split at h
  · rename_i cc _ _
    cases cc <;> cases d <;> simp only [constEq] at h <;> first | (cases h; done) | skip
    · refine PE.mono pe_non ?_
      rintro σ H Q ⟨Pn, M0, M, ρ, I, h⟩
      exact h _ _ (Sm.refl _) .non
    · refine PE.mono pe_bl ?_
      rintro σ H Q ⟨Pn, M0, M, ρ, I, h'⟩
      rename_i a b
      have e : a = b := by cases a <;> cases b <;> first | rfl | cases h
      subst e
      exact h' _ _ (Sm.refl _) (.bl _)
    · cases of_decide_eq_true h
      refine PE.mono pe_int ?_
      rintro σ H Q ⟨Pn, M0, M, ρ, I, h⟩
      exact h _ _ (Sm.refl _) (.int _)
    · cases of_decide_eq_true h
      refine PE.mono pe_str ?_
      rintro σ H Q ⟨Pn, M0, M, ρ, I, h⟩
      exact h _ _ (Sm.refl _) (.str _)
  · cases h
theorem sem_v (i : Nat) : Sem G F k xc N (.v i) := by
  have go : ∀ (m : Bool) {sc : Scope} {fs : Str → Bool} {E : XK} {X : Cx} {e : Expr}, Cxt G F k xc N sc fs E X → chkE G N (.v i) sc e = true →
      PE X e (tEv X.K X.prog X.w xc E (ev F m (.v i)) (if m then pR X.K X.prog X.w else pS X.K X.prog X.w)) := by
    intro m sc fs E X e c h
    unfold chkE at h
    split at h
    · rename_i x pos
      simp only [Bool.and_eq_true, decide_eq_true_eq] at h
      obtain ⟨⟨h1, h2⟩, h3⟩ := h
      obtain ⟨a, b, _⟩ := okN_of h3
      refine PE.mono (pe_var (i := i) (by rw [c.names]; exact h1) (by rw [c.scope]; exact isVis_of h2) a b) ?_
      rintro σ H Q ⟨Pn, M0, M, ρ, I, h⟩
      have h' : RP xc E H (rdS m ρ[i]?) _ := h
      cases q : rdS m ρ[i]? with
      | ok d =>
        rw [q] at h'
        obtain ⟨v, h1, h2⟩ := I.rd q
        exact ⟨v, h1, h' _ _ (Sm.refl _) (by cases m <;> exact h2)⟩
      | exc z => exfalso; unfold rdS at q; split at q <;> first | (cases q; done) | (split at q <;> cases q)
      | bad => rw [q] at h'; exact h'.elim
    · cases h
  refine ⟨fun c h => go false c h, fun c h => go true c h, fun {sc fs E X e} c h => ?_⟩
  have h' : chkE G N (.v i) sc e = true := by
    unfold chkB at h
    unfold chkE
    exact h
  refine pt_plain (go false c h') ?_
  unfold chkE at h'
  split at h'
  · rfl
  · cases h'
theorem sem_g (x : Str) (d : PyData) : Sem G F k xc N (.g x d) := by
  refine Sem.mk1 (fun _ => rfl) (fun {sc fs E X e} c h => ?_) fun _ _ h => by simp [chkB] at h
  unfold chkE at h
  split at h
  · simp only [Bool.and_eq_true, decide_eq_true_eq, List.any_eq_true] at h
    obtain ⟨⟨⟨rfl, h2⟩, h3⟩, p, hp, h4, h5⟩ := h
    obtain ⟨v, u, q1, q2, q3⟩ := c.con p hp
    rw [h4] at q1
    obtain ⟨a, b, _⟩ := okN_of h3
    have e : p.2 = d := by
      cases q : p.2 <;> cases d <;> rw [q] at h5 <;> simp only [flatEq] at h5 <;> first | (cases h5; done) | (rw [of_decide_eq_true h5])
    refine PE.mono (pe_glob (c.gl h2) q1 q2 a) ?_
    rintro σ H Q ⟨Pn, M0, M, ρ, I, h⟩
    exact h _ _ (Sm.refl _) (by rw [← e]; exact q3 _ _ _ _ _)
  · cases h
/-- two operands -/
theorem ev2 {K : PySem.W.Frag} {P : Program} {w : World} {E : XK} {f g : Env → R PyData} {ff : PyData → PyData → R PyData} {σ : L2.St} {H : Hp} {Q : VK}
    (h : tEv K P w xc E (fun ρ => (f ρ).bind fun x => (g ρ).bind fun y => ff x y) (pS K P w) σ H Q) (hno : ∀ x y c, ff x y ≠ .exc c) : tOp (rB K P w ff) (tEv K P w xc E f (pR K P w)) (tEv K P w xc E g (pR K P w)) σ H Q := by
  obtain ⟨Pn, M0, M, ρ, I, h⟩ := h
  refine ⟨Pn, M0, M, ρ, I, h.bind.imp fun d _ h v H1 s1 p => ⟨Pn, M0, M, ρ, I.sm s1, (h.sm s1).bind.imp fun e _ h2 u H2 s2 q => ?_⟩⟩
  cases r : ff d e with
  | ok z =>
    rw [r] at h2
    exact ⟨M, d, e, z, (Mh.sm I.mh s1).sm s2, p.sm s2, q, r, fun v' H' s3 o => h2 v' H' ((s1.trans s2).trans s3) o⟩
  | exc c => exact (hno _ _ _ r).elim
  | bad => rw [r] at h2; exact h2.elim
theorem pbin_no : ∀ (op : Bop) (x y : PyData) (c : Nat), pbin op x y ≠ .exc c := by
  intro op x y c h
  unfold pbin at h
  split at h <;> first | (cases h; done) | (split at h <;> cases h)
theorem sem_bin {op : Bop} {a b : Iv.E} (ha : Sem G F k xc N a) (hb : Sem G F k xc N b) : Sem G F k xc N (.bin op a b) := by
  refine Sem.mk1 (fun _ => rfl) (fun {sc fs E X e} c h => ?_) fun _ _ h => by simp [chkB] at h
  unfold chkE at h
  split at h
  · simp only [Bool.and_eq_true, decide_eq_true_eq] at h
    obtain ⟨⟨rfl, h1⟩, h2⟩ := h
    refine PE.mono (pe_op (opr_bin op) (ha.rd c h1) (hb.rd c h2)) fun σ H Q z => ev2 (ff := pbin op) ?_ (pbin_no op)
    exact z
  · cases h
theorem sem_neg {a : Iv.E} (ha : Sem G F k xc N a) : Sem G F k xc N (.neg a) := by
  refine Sem.mk1 (fun _ => rfl) (fun {sc fs E X e} c h => ?_) fun _ _ h => by simp [chkB] at h
  unfold chkE at h
  split at h
  · refine PE.mono (pe_un un_neg (ha.rd c h)) ?_
    rintro σ H Q ⟨Pn, M0, M, ρ, I, h⟩
    refine ⟨Pn, M0, M, ρ, I, RP.bind (show RP xc E H ((ev F true a ρ).bind _) _ from h) |>.imp fun d _ h v H1 s1 p => ?_⟩
    cases d with
    | int i =>
      rw [RpR.int p]
      exact ⟨i, rfl, h _ _ s1 (.int _)⟩
    | _ => exact (show False from h).elim
  · cases h
/-- two operands, a truth -/
theorem evC {K : PySem.W.Frag} {P : Program} {w : World} {E : XK} {f g : Env → R PyData} {ff : PyData → PyData → R Bool} {σ : L2.St} {H : Hp} {Q : VK} {post : Post}
    (h : tEv K P w xc E (fun ρ => (f ρ).bind fun x => (g ρ).bind fun y => (ff x y).bind fun k => .ok (.bool k)) post σ H Q) (hp : ∀ H M H' b, post H M H' (.bl b) (.bool b)) (hno : ∀ x y c, ff x y ≠ .exc c) : tOp (rC K P w ff) (tEv K P w xc E f (pR K P w)) (tEv K P w xc E g (pR K P w)) σ H Q := by
  obtain ⟨Pn, M0, M, ρ, I, h⟩ := h
  refine ⟨Pn, M0, M, ρ, I, h.bind.imp fun d _ h v H1 s1 p => ⟨Pn, M0, M, ρ, I.sm s1, (h.sm s1).bind.imp fun e _ h2 u H2 s2 q => ?_⟩⟩
  cases r : ff d e with
  | ok z =>
    rw [r] at h2
    exact ⟨M, d, e, z, (Mh.sm I.mh s1).sm s2, p.sm s2, q, r, fun H' s3 => h2 _ H' ((s1.trans s2).trans s3) (hp _ _ _ _)⟩
  | exc c => exact (hno _ _ _ r).elim
  | bad => rw [r] at h2; exact h2.elim
theorem evCB {K : PySem.W.Frag} {P : Program} {w : World} {E : XK} {f g : Env → R PyData} {ff : PyData → PyData → R Bool} {σ : L2.St} {H : Hp} {Q : Bool → Hp → Prop}
    (h : tEvB K P w xc E (fun ρ => ((f ρ).bind fun x => (g ρ).bind fun y => (ff x y).bind fun k => .ok (.bool k)).bind asB) σ H Q) (hno : ∀ x y c, ff x y ≠ .exc c) : tTest (tOp (rC K P w ff) (tEv K P w xc E f (pR K P w)) (tEv K P w xc E g (pR K P w))) σ H Q := by
  obtain ⟨Pn, M0, M, ρ, I, h⟩ := h
  refine evC (post := pS K P w) ⟨Pn, M0, M, ρ, I, h.bind.imp fun d e h v H1 s1 p => ?_⟩ (fun _ _ _ _ => .bl _) hno
  cases d with
  | bool b => cases p; exact ⟨b, rfl, h _ s1⟩
  | _ => exact (show False from h).elim
theorem pis_no : ∀ (x y : PyData) (c : Nat), pis x y ≠ .exc c := by
  intro x y c h
  unfold pis at h
  split at h <;> cases h
theorem pin_no : ∀ (x y : PyData) (c : Nat), pin x y ≠ .exc c := by
  intro x y c h
  unfold pin at h
  split at h <;> first | (cases h; done) | (split at h <;> cases h)
theorem pcmp_no : ∀ (op : Cop) (x y : PyData) (c : Nat), pcmp op x y ≠ .exc c := by
  intro op x y c h
  unfold pcmp at h
  split at h
  · split at h <;> cases h
  · split at h <;> cases h
  · cases h
  · cases h
  · cases h
  · cases h
  · exact pis_no _ _ _ h
  · cases q : pis x y with
    | exc c => exact pis_no _ _ _ q
    | ok _ => rw [q] at h; cases h
    | bad => rw [q] at h; cases h
  · exact pin_no _ _ _ h
  · cases q : pin x y with
    | exc c => exact pin_no _ _ _ q
    | ok _ => rw [q] at h; cases h
    | bad => rw [q] at h; cases h
  · cases h
theorem sem_cmp {op : Cop} {a b : Iv.E} (ha : Sem G F k xc N a) (hb : Sem G F k xc N b) : Sem G F k xc N (.cmp op a b) := by
  have st : ∀ {sc : Scope} {fs : Str → Bool} {E : XK} {X : Cx} {e : Expr}, Cxt G F k xc N sc fs E X → chkE G N (.cmp op a b) sc e = true → PE X e (tEv X.K X.prog X.w xc E (ev F false (.cmp op a b)) (pS X.K X.prog X.w)) := by
    intro sc fs E X e c h
    unfold chkE at h
    split at h
    · simp only [Bool.and_eq_true, decide_eq_true_eq] at h
      obtain ⟨⟨⟨rfl, h1⟩, h2⟩, h3⟩ := h
      have hu := c.hu
      exact PE.mono (pe_cmpR (opr_cmp (by omega) op) (ha.rd c h1) (hb.rd c h2) (mark_of h3)) fun σ H Q z => evC (ff := pcmp op) (post := pS X.K X.prog X.w) z (fun _ _ _ _ => .bl _) (pcmp_no op)
    · cases h
  refine ⟨st, fun c h => pe_weak (st c h) fun _ _ _ _ _ _ p => .inl p, fun {sc fs E X e} c h => ?_⟩
  unfold chkB at h
  split at h
  · simp only [Bool.and_eq_true, decide_eq_true_eq] at h
    obtain ⟨⟨⟨rfl, h1⟩, h2⟩, h3⟩ := h
    have hu := c.hu
    exact PT.mono (pt_cmpR (opr_cmp (by omega) op) (ha.rd c h1) (hb.rd c h2) (mark_of h3)) fun σ H Q z => evCB (ff := pcmp op) z (pcmp_no op)
  · cases h
theorem evCh {K : PySem.W.Frag} {P : Program} {w : World} {E : XK} {f g h' : Env → R PyData} {ff gg : PyData → PyData → R Bool} {σ : L2.St} {H : Hp} {Q : VK}
    (h : tEv K P w xc E (fun ρ => (f ρ).bind fun x => (g ρ).bind fun y => (ff x y).bind fun k => if k then (h' ρ).bind fun z => (gg y z).bind fun k2 => .ok (.bool k2) else .ok (.bool false)) (pS K P w) σ H Q)
    (hno : ∀ x y c, ff x y ≠ .exc c) (hno2 : ∀ x y c, gg x y ≠ .exc c) : tChain (rC K P w ff) (rC K P w gg) (tEv K P w xc E f (pR K P w)) (tEv K P w xc E g (pR K P w)) (tEv K P w xc E h' (pR K P w)) σ H Q := by
  obtain ⟨Pn, M0, M, ρ, I, h⟩ := h
  refine ⟨Pn, M0, M, ρ, I, h.bind.imp fun d _ h v H1 s1 p => ⟨Pn, M0, M, ρ, I.sm s1, (h.sm s1).bind.imp fun e _ h2 u H2 s2 q => ?_⟩⟩
  cases r : ff d e with
  | ok z =>
    rw [r] at h2
    refine ⟨M, d, e, z, (Mh.sm I.mh s1).sm s2, p.sm s2, q, r, fun H3 s3 => ⟨z, rfl, ?_⟩⟩
    cases z with
    | false => exact iteF (h2 _ _ ((s1.trans s2).trans s3) (.bl false))
    | true =>
      refine iteT ⟨Pn, M0, M, ρ, ((I.sm s1).sm s2).sm s3, ?_⟩
      have h3 : RP xc E H1 ((h' ρ).bind fun z => (gg e z).bind fun k2 => .ok (PyData.bool k2)) (fun d => ∀ v H', Sm H H' → pS K P w H M H' v d → Q v H') := h2
      refine ((h3.sm s2).sm s3).bind.imp fun z2 _ h4 v4 H4 s4 p4 => ?_
      cases r2 : gg e z2 with
      | ok k2 =>
        rw [r2] at h4
        exact ⟨M, e, z2, k2, ((((Mh.sm I.mh s1).sm s2).sm s3).sm s4), (q.sm s3).sm s4, p4, r2, fun H5 s5 => h4 _ _ ((((s1.trans s2).trans s3).trans s4).trans s5) (.bl _)⟩
      | exc c => exact (hno2 _ _ _ r2).elim
      | bad => rw [r2] at h4; exact h4.elim
  | exc c => exact (hno _ _ _ r).elim
  | bad => rw [r] at h2; exact h2.elim
theorem sem_chain {o1 o2 : Cop} {a b d : Iv.E} (ha : Sem G F k xc N a) (hb : Sem G F k xc N b) (hd : Sem G F k xc N d) : Sem G F k xc N (.chain o1 o2 a b d) := by
  have st : ∀ {sc : Scope} {fs : Str → Bool} {E : XK} {X : Cx} {e : Expr}, Cxt G F k xc N sc fs E X → chkE G N (.chain o1 o2 a b d) sc e = true → PE X e (tEv X.K X.prog X.w xc E (ev F false (.chain o1 o2 a b d)) (pS X.K X.prog X.w)) := by
    intro sc fs E X e c h
    unfold chkE at h
    split at h
    · simp only [Bool.and_eq_true, decide_eq_true_eq] at h
      obtain ⟨⟨⟨⟨⟨rfl, rfl⟩, h1⟩, h2⟩, h3⟩, h4⟩ := h
      have hu := c.hu
      exact PE.mono (pe_chain (opr_cmp (by omega) o1) (opr_cmp (by omega) o2) (ha.rd c h1) (hb.rd c h2) (hd.rd c h3) (lmark_of h4)) fun σ H Q z => evCh (ff := pcmp o1) (gg := pcmp o2) z (pcmp_no _) (pcmp_no _)
    · cases h
  refine ⟨st, fun c h => pe_weak (st c h) fun _ _ _ _ _ _ p => .inl p, fun {sc fs E X e} c h => ?_⟩
  unfold chkB at h
  split at h
  · simp only [Bool.and_eq_true, decide_eq_true_eq] at h
    obtain ⟨⟨⟨⟨⟨rfl, rfl⟩, h1⟩, h2⟩, h3⟩, h4⟩ := h
    have hu := c.hu
    refine PT.mono (pt_chain (opr_cmp (by omega) o1) (opr_cmp (by omega) o2) (ha.rd c h1) (hb.rd c h2) (hd.rd c h3) (lmark_of h4)) fun σ H Q z => ?_
    obtain ⟨Pn, M0, M, ρ, I, h⟩ := z
    refine evCh (ff := pcmp o1) (gg := pcmp o2) ⟨Pn, M0, M, ρ, I, h.bind.imp fun d e h v H1 s1 p => ?_⟩ (pcmp_no _) (pcmp_no _)
    cases d with
    | bool b => cases p; exact ⟨b, rfl, h _ s1⟩
    | _ => exact (show False from h).elim
  · cases h
end
end Iv
end

section
/-! IvS: sorted(set(xs)) of whole numbers, any number of them. -/
namespace Iv
open PySem L2 PyProof.Rows PySem.Spec

/-- an empty set object -/
abbrev set0 (w : World) : Obj := { cls := .type "set", dict := none, data := .set #[] 0 (.fresh 0 0 (!w.params.followText "set-order")) }
section
variable {P : Program} {w : World} {A : Around} {E : Value → Shared → Prop} {s : Shared}
set_option maxHeartbeats 3200000 in
/-- set(xs), a list of whole numbers -/
theorem set_of_list {l : Addr} {us : Array Value} (ks : List Int) {Q : Value → Shared → Prop} (hA : A.handled = none) (hL : s.heap.IsList l us) (hI : IntsAre us.toList ks) (hB : ks.length + 1 < scanBound)
    (go : ∀ (g : Heap) (tk c : Nat), SetR w g s.heap.objs.size (fun j => decide (j ∈ ks)) c → c ≤ ks.length → (∀ b o, s.heap.get? b = some o → g.get? b = some o) → Q (.ref s.heap.objs.size) { s with heap := g, toks := tk }) :
    wpAny (model P w) A (call (.type "set") [.ref l]) Q E s := by
  have eN : us.size = ks.length := by
    have z := IntsAre.length hI
    rwa [Array.length_toList] at z
  obtain ⟨c0, tl0, mro0⟩ := F.called_set.mro
  have made0 := F.called_set.made
  have sub0 := F.called_set.sub
  refine wpAny_call (codeAny_of_tree (show wpAny _ _ (callAny (.type "set") _) _ _ _ from ?_))
  refine wpAny_pure ⟨Code.quiet_builtin _ (by decide +kernel), codeAny_builtin F.entry_type_call ?_⟩
  rw [Around.under_plain (weight_type_call_type "set" [.ref l] []) rfl]
  have nt0 := F.called_set.notType
  have cc0 := F.called_set.canCreate
  have tc0 := F.typeCall_set_1 (.ref l)
  repeat (any_goals (first | assumption | wp_step))
  refine codeAny_mono (code_set_led1 (.ref l) (E := E) (Q₁ := fun x t => x = .ref s.heap.objs.size ∧ t = { s with heap := s.heap.push (set0 w) }) ⟨rfl, rfl⟩) fun r t hr => ?_
  rcases r with e | fl
  · exact hr
  cases fl with
  | ret x =>
    obtain ⟨rfl, rfl⟩ := hr
    have hO : (s.heap.push (set0 w)).get? s.heap.objs.size = some (set0 w) := Heap.get?_push_size _ rfl
    have hT : Shared.TypeIs { s with heap := s.heap.push (set0 w) } (.ref s.heap.objs.size) "set" := ⟨_, hO, rfl⟩
    have li0 := F.called_set.init.lookup
    have bi0 := F.called_set.init.bind (.ref s.heap.objs.size)
    repeat (any_goals (first | assumption | wp_step))
    refine codeAny_mono (codeAny_call_builtin (R := wants (fun y t2 => y = .none ∧ ∃ g tk c, t2 = { s with heap := g, toks := tk } ∧ SetR w g s.heap.objs.size (fun j => decide (j ∈ ks)) c ∧ c ≤ ks.length ∧
        (∀ b o, s.heap.get? b = some o → g.get? b = some o)) E) F.called_set.init.plain F.entry_set_init (check_set_init_1 hT ?_)) fun y t2 hy => ?_
    · obtain ⟨⟨k1, k2, k3, k4⟩, ho, hc, m, hd⟩ := hL
      simp only at hc hd
      subst hc hd
      have ho1 : (s.heap.push (set0 w)).get? l = some { cls := .type "list", dict := k2, data := .seq us m, slots := k4 } := Heap.get?_push_of_some _ ho
      have sl0 := F.sub_list_set
      have sf0 := F.sub_list_frozenset
      have nd0 : (Value.type "list" == Value.type "dict") = false := by decide
      have hL1 : (s.heap.push (set0 w)).IsList l us := ⟨_, ho1, rfl, m, rfl⟩
      unfold Builtin.«set.__init__» noKeywords Builtin.Frozenset.updateFrom
      generalize eI : pyIter = PI
      wp_walk
      subst eI
      refine wpAny_pyIter_list hL1 (wpAny_bind (wpAny_runValue ?_))
      have lt0 : l < s.heap.objs.size := Heap.lt_size ho
      have hA3 : A.in1.in1.in1.handled = none := by simp [hA]
      have ne0 : l ≠ (s.heap.push (set0 w)).objs.size := by
        rw [Heap.size_push]; exact Nat.ne_of_lt (Nat.lt_succ_of_lt lt0)
      have nf0 : s.heap.objs.size ∉ [(s.heap.push (set0 w)).objs.size, l] := by
        rw [Heap.size_push]
        simp only [List.mem_cons, List.mem_singleton, List.not_mem_nil, or_false, not_or]
        exact ⟨Nat.ne_of_lt (Nat.lt_succ_self _), Nat.ne_of_gt lt0⟩
      have val0 : ∀ (i : Nat) (v : Value), us[i]? = some v → ∃ k t, ks[i]? = some k ∧ v = .int k t := fun i v hv => by
        have hi : i < ks.length := by rw [← eN]; exact (Array.getElem?_eq_some_iff.mp hv).1
        obtain ⟨t, e⟩ := PyProof.Rows.IntsAre.int_at hI i v (by rw [Array.getElem?_toList]; exact hv)
        refine ⟨ks[i], t, List.getElem?_eq_getElem hi, ?_⟩
        rw [e, List.getD_eq_getElem?_getD, List.getElem?_eq_getElem hi]; rfl
      refine set_update_ints ((Walks.list hA3 _ l ne0 us).toS) s.heap.objs.size nf0 ks eN hB val0 (us.size - 0) 0 _ (by omega) (Nat.zero_le _)
        ⟨⟨_, Heap.get?_push_size _ rfl, rfl, rfl⟩, (hL1.push _)⟩ ⟨0, Nat.le_refl 0, setR_new_at (Heap.get?_push_of_some _ hO)⟩ ?fin
      case fin =>
        rintro ⟨g, g2, d2, tk, os2⟩ c hm hc hR
        have e1 : g2 = s.gens := hm.gens
        have e2 : d2 = s.drawn := hm.drawn
        have e3 : os2 = s.os := hm.os
        subst e1 e2 e3
        show wpAny _ _ _ _ _ _
        refine wpAny_pure (show wpAny _ _ (ret Value.none) _ _ _ from ?_)
        rw [eN] at hc
        refine wpAny_pure ⟨rfl, g, tk, c, rfl, hR, hc, fun b o e => ?_⟩
        have b0 : b < s.heap.objs.size := Heap.lt_size e
        refine hm.heap b o ?_ (Heap.get?_push_of_some _ (Heap.get?_push_of_some _ e))
        simp only [List.mem_cons, List.mem_singleton, List.not_mem_nil, or_false, not_or]
        exact ⟨Nat.ne_of_lt b0, by rw [Heap.size_push]; exact Nat.ne_of_lt (Nat.lt_succ_of_lt b0)⟩
    · rcases y with e | fl2
      · exact hy
      cases fl2 with
      | ret y =>
        obtain ⟨rfl, g, tk, c, rfl, q1, q2, q3⟩ := hy
        repeat (any_goals (first | assumption | wp_step))
        exact go _ _ _ q1 q2 q3
      | _ => exact hy.elim
  | _ => exact hr.elim
/-- sorted(a set), any number of members -/
theorem sorted_of_set {a : Addr} {M : Int → Bool} {n : Nat} {Q : Value → Shared → Prop} (R : SetR w s.heap a M n) (hA : A.handled = none) (hn : n ≤ sizeLine)
    (go : ∀ s' p (out : Array Value) (c : Nat) (ns : List Int), (∀ b o, s.heap.get? b = some o → s'.heap.get? b = some o) → s'.gens = s.gens → s'.os = s.os → s.heap.objs.size ≤ p →
      s'.heap.get? p = some (seqObj "list" out c) → IntsAre out.toList ns → ns.Pairwise (· < ·) → (∀ k, k ∈ ns ↔ M k = true) → ns.length = n → Q (.ref p) s') :
    wpAny (model P w) A (call (.builtin "sorted") [.ref a]) Q E s := by
  obtain ⟨o, es, ep, t, ho, hex, hd, g, nd, hm, hb, hf, hk, hr, hl⟩ := R
  refine Calls.call_function_entry kind_sorted plain_sorted entry_sorted (args_sorted1 _) ?_
  unfold Builtin.«sorted»
  refine wpAny_bind (m := checkCount "sorted" 1 1 _) (wpAny_pure (wpAny_bind (collect_set (A := A.in1) hA ⟨o, ho, hex.1, hd⟩ hf hb hr hl fun s1 vs k1 hz g1 o1 pm => ?_)))
  have lv : vs.length = n := by rw [pm.length_eq, List.length_map, Array.length_toList]; exact hk
  have iv : IntsAre vs (vs.map Builtin.Re.reRawOf) := ints_of vs fun v hv => by
    obtain ⟨e, he, q⟩ := List.mem_map.mp (pm.mem_iff.mp hv)
    obtain ⟨k, tk, z, _⟩ := g e he
    exact ⟨k, tk, by rw [← q]; exact z⟩
  have pk : (vs.map Builtin.Re.reRawOf).Perm (es.toList.map keyOf) := by
    have q := pm.map Builtin.Re.reRawOf
    rwa [List.map_map] at q
  refine wpAny_bind (wpAny_newList ?_ (by rw [lv]; exact hn))
  have hoL : (s1.heap.push (seqObj "list" vs.toArray 0)).get? s1.heap.objs.size = some (seqObj "list" vs.toArray 0) := Heap.get?_push_size _ rfl
  refine wpAny_bind (wpAny_holding (wpAny_call_entry slot_list_sort ⟨_, hoL, rfl⟩ entry_list_sort (SrtO.list_sort_ord SrtO.swo_int hoL (by rw [lv]; exact hn) (fun h2 => SrtO.ints_sortable iv h2) fun out a1 a2 => ⟨_, rfl, ?_⟩) (args_list_sort _)))
  obtain ⟨b1, b2, b3⟩ := SrtO.ints_out iv a1 a2
  obtain ⟨c, hc⟩ := sortedHeap_at (vs := vs) (out := out.toArray) hoL
  have pn : (out.map SrtO.iv).Perm (es.toList.map keyOf) := b2.trans pk
  refine wpAny_pure ⟨_, rfl, go _ s1.heap.objs.size out.toArray c (out.map SrtO.iv) (fun b u e => ?_) g1 o1 hz hc b1 (lt_of_le_nodup _ b3 (pn.nodup_iff.mpr nd)) (fun k => by rw [pn.mem_iff, ← hm k]) ?_⟩
  · have q := k1 b u e
    have hlt := Heap.lt_size q
    show (sortedHeap (s1.heap.push (seqObj "list" vs.toArray 0)) s1.heap.objs.size vs out.toArray).get? b = some u
    rw [sortedHeap_old (Nat.ne_of_lt hlt) (by rw [size_push']; exact Nat.lt_succ_of_lt hlt)]
    exact Heap.get?_push_of_some _ q
  · rw [pn.length_eq, List.length_map, Array.length_toList]; exact hk
end
end Iv
end

section
/-! IvS2: sorted(set(e)) as an expression. -/
namespace Iv
open PySem L2 PyProof.Rows PySem.Spec RZ
def tSrtSet (K : PySem.W.Frag) (ta : TE) : TE := fun σ H Q => ta σ H fun x H1 => ∃ (l : Addr) (ns : List Int), x = .ref l ∧ (SqL K H1 l (ns.map V.int) ∨ SqT K H1 l (ns.map V.int)) ∧ ns.length ≤ 4000 ∧
  ∀ (out : List Int) (p : Addr) (H2 : Hp), (∀ b o, H1 b = some o → H2 b = some o) → out.Pairwise (· < ·) → (∀ k, k ∈ out ↔ k ∈ ns) → H2 p = none → Q (.ref p) (upd H2 p (.lst (out.map V.int)))
theorem pe_srtSet {X : Cx} {a : Expr} {ta : TE} {p p2 q pos : Pos} (hg : Gl X "sorted") (hm : X.mg "sorted" = none) (hg2 : Gl X "set") (hm2 : X.mg "set" = none) (ha : PE X a ta) (hc : X.calm = true)
    (na : starEach [a] X.env = (false, eval a X.env) :: starEach [] X.env) : PE X (.Call (.Name "sorted" p) [.Call (.Name "set" p2) [a] [] q] [] pos) (tSrtSet X.K ta) := by
  refine ⟨fun pins s σ H Q I h => ?_⟩
  refine Call_ (ld_blt I hg hm boot_sorted (callWith_builtin1 (args_cons (Call_ (ld_blt I hg2 hm2 boot_set (callWith_type1 (args_cons (thn (ha.run pins s σ H _ I h) fun v s1 ⟨x, H1, I1, r1, q1⟩ => args_nil ?_) na) na rfl))) rfl) rfl rfl))
  obtain ⟨l, ns, rfl, hq, hl, q1⟩ := q1
  cases r1
  have sb : ns.length + 1 < scanBound := by unfold scanBound; omega
  have fin : ∀ (g : Heap) (tk c : Nat), SetR X.w g s1.heap.objs.size (fun j => decide (j ∈ ns)) c → c ≤ ns.length → (∀ b o, s1.heap.get? b = some o → g.get? b = some o) →
      wpAny (model X.prog X.w) X.A (call (.builtin "sorted") [.ref s1.heap.objs.size]) (EP X pins σ Q) X.xe { s1 with heap := g, toks := tk } := by
    intro g tk c hR hcn hk
    have I2 : Inv X pins σ H1 { s1 with heap := g, toks := tk } := I1.kept fun b o e => hk b o e
    refine sorted_of_set (s := { s1 with heap := g, toks := tk }) hR (I2.ok.hd hc) (by rw [sizeLine_eq]; omega) fun s' p out c' ns' k gg o hp hgt hi hs hmm hln => ?_
    have hlen : (ns'.map V.int).length ≤ sizeLine := by rw [List.length_map, hln, sizeLine_eq]; omega
    have hn : H1 p = none := I2.hok.fresh hp
    have J : Inv X pins σ (upd H1 p (.lst (ns'.map V.int))) { { s1 with heap := g, toks := tk } with heap := s'.heap, gens := s'.gens, drawn := s'.drawn, toks := s'.toks } :=
      I2.call (ch := []) (Un.laid k hp hn) (I2.hok.laid k hp ⟨hlen, out.toList, c', vals_of_ints hi, hgt⟩) (by rw [gg]; exact I2.bare) (fun _ z => nomatch z)
    have e : s' = { { s1 with heap := g, toks := tk } with heap := s'.heap, gens := s'.gens, drawn := s'.drawn, toks := s'.toks } := by
      obtain ⟨_, _, _, _, _⟩ := s'
      simp only at o
      subst o
      rfl
    rw [e]
    exact ⟨.ref p, _, J, rfl, q1 ns' p H1 (fun _ _ z => z) hs (fun k => by rw [hmm k, decide_eq_true_eq]) hn⟩
  rcases hq with hq | hq
  · obtain ⟨its, r, pl, hz⟩ := I1.list hq
    exact set_of_list ns (I1.ok.hd hc) pl.isList (by simpa using intsAre_vals r) sb fun g tk c hR hcn hk => args_nil (fin g tk c hR hcn hk)
  · obtain ⟨its, r, pl, hz⟩ := I1.tuple hq
    exact call_set_tupI ns (I1.ok.hd hc) pl (by simpa using intsAre_vals r) sb fun g tk c hR hcn hk => args_nil (fin g tk c hR hcn hk)
def tLenSet (K : PySem.W.Frag) (ta : TE) : TE := fun σ H Q => ta σ H fun x H1 => ∃ (l : Addr) (ns : List Int), x = .ref l ∧ SqL K H1 l (ns.map V.int) ∧ ns.length ≤ 4000 ∧
  ∀ (out : List Int), out.Nodup → (∀ k, k ∈ out ↔ k ∈ ns) → Q (.int out.length) H1
theorem pe_lenSet {X : Cx} {a : Expr} {ta : TE} {p p2 q pos : Pos} (hg : Gl X "len") (hm : X.mg "len" = none) (hg2 : Gl X "set") (hm2 : X.mg "set" = none) (ha : PE X a ta) (hc : X.calm = true)
    (na : starEach [a] X.env = (false, eval a X.env) :: starEach [] X.env) : PE X (.Call (.Name "len" p) [.Call (.Name "set" p2) [a] [] q] [] pos) (tLenSet X.K ta) := by
  refine ⟨fun pins s σ H Q I h => ?_⟩
  refine Call_ (ld_blt I hg hm PySem.boot_len (callWith_builtin1 (args_cons (Call_ (ld_blt I hg2 hm2 boot_set (callWith_type1 (args_cons (thn (ha.run pins s σ H _ I h) fun v s1 ⟨x, H1, I1, r1, q1⟩ => args_nil ?_) na) na rfl))) rfl) rfl rfl))
  obtain ⟨l, ns, rfl, hq, hl, q1⟩ := q1
  cases r1
  have sb : ns.length + 1 < scanBound := by unfold scanBound; omega
  obtain ⟨its, r, pl, hz⟩ := I1.list hq
  refine set_of_list ns (I1.ok.hd hc) pl.isList (by simpa using intsAre_vals r) sb fun g tk c hR hcn hk => args_nil ?_
  obtain ⟨o, es, ep, t, ho, hex, hd, _, hnd, hm, _, hf, hn, _⟩ := hR
  have I2 : Inv X pins σ H1 { s1 with heap := g, toks := tk } := I1.kept fun b o e => hk b o e
  have hsz : (es.toList.map keyOf).length = es.size := by rw [List.length_map, Array.length_toList]
  have hq := q1 (es.toList.map keyOf) hnd (fun k => by rw [← hm k, decide_eq_true_eq])
  rw [hsz] at hq
  exact call_len_set ho hex hd hf (by omega) ⟨.int es.size, H1, I2.tok _, ⟨_, rfl⟩, hq⟩
end Iv
end

section
/-! IvF: dict(pairs). -/
namespace Iv
open PySem L2 PyProof.Rows PySem.Spec
variable [Tb]
theorem pairsOf_cons {d : PyData} {ds : List PyData} {ps : List (PyData × PyData)} (h : pairsOf (d :: ds) = some ps) : ∃ k v qs, d = .tuple [k, v] ∧ pairsOf ds = some qs ∧ ps = (k, v) :: qs := by
  unfold pairsOf at h
  split at h
  · rename_i e; cases e
  · rename_i k v r e
    cases e
    cases z : pairsOf ds with
    | none => rw [z] at h; cases h
    | some qs => rw [z] at h; cases h; exact ⟨k, v, qs, rfl, rfl, rfl⟩
  · cases h
theorem mem_keys_storedH {es : List (NestedKey × Addr × Value)} {n : NestedKey} {b : Addr} {u : Value} (h : (es.map (·.1)).Nodup) : ((storedH es n b u).map (·.1)).Nodup ∧ ∀ m, m ∈ (storedH es n b u).map (·.1) ↔ m = n ∨ m ∈ es.map (·.1) := by
  induction es with
  | nil => exact ⟨by show [n].Nodup; simp, fun m => by show m ∈ [n] ↔ _; simp⟩
  | cons x es ih =>
    rw [storedH_cons _ _ _ _ _ h]
    rw [List.map_cons, List.nodup_cons] at h
    by_cases e : x.1 = n
    · rw [if_pos e]
      refine ⟨by rw [List.map_cons, List.nodup_cons]; exact h, fun m => ?_⟩
      rw [List.map_cons, List.map_cons, List.mem_cons]
      exact ⟨.inr, fun z => z.elim (fun q => .inl (q.trans e.symm)) id⟩
    · rw [if_neg e]
      obtain ⟨i1, i2⟩ := ih h.2
      refine ⟨?_, fun m => ?_⟩
      · rw [List.map_cons, List.nodup_cons]
        exact ⟨fun z => ((i2 _).mp z).elim e h.1, i1⟩
      · rw [List.map_cons, List.map_cons, List.mem_cons, List.mem_cons, i2]
        exact ⟨fun z => z.elim (fun q => .inr (.inl q)) fun q => q.elim .inl fun q => .inr (.inr q), fun z => z.elim (fun q => .inr (.inl q)) fun q => q.elim .inl fun q => .inr (.inr q)⟩
theorem mem_keys_putK {es : List (Key × V)} {n : Key} {u : V} (h : (es.map (·.1)).Nodup) : ((putK es n u).map (·.1)).Nodup ∧ ∀ m, m ∈ (putK es n u).map (·.1) ↔ m = n ∨ m ∈ es.map (·.1) := by
  induction es with
  | nil => exact ⟨by show [n].Nodup; simp, fun m => by show m ∈ [n] ↔ _; simp⟩
  | cons x es ih =>
    rw [putK_cons _ _ _ _ h]
    rw [List.map_cons, List.nodup_cons] at h
    by_cases e : x.1 = n
    · rw [if_pos e]
      refine ⟨by rw [List.map_cons, List.nodup_cons]; exact h, fun m => ?_⟩
      rw [List.map_cons, List.map_cons, List.mem_cons]
      exact ⟨.inr, fun z => z.elim (fun q => .inl (q.trans e.symm)) id⟩
    · rw [if_neg e]
      obtain ⟨i1, i2⟩ := ih h.2
      refine ⟨?_, fun m => ?_⟩
      · rw [List.map_cons, List.nodup_cons]
        exact ⟨fun z => ((i2 _).mp z).elim e h.1, i1⟩
      · rw [List.map_cons, List.map_cons, List.mem_cons, List.mem_cons, i2]
        exact ⟨fun z => z.elim (fun q => .inr (.inl q)) fun q => q.elim .inl fun q => .inr (.inr q), fun z => z.elim (fun q => .inr (.inl q)) fun q => q.elim .inl fun q => .inr (.inr q)⟩
section
variable {X : Cx} {pins : List (Addr × Obj)} {σ : L2.St} {s : Shared} {H : Hp} {M : Addr → Prop}
/-- pairs with tuple keys, as they stand in the heap -/
inductive PrT (X : Cx) (s : Shared) (H : Hp) (M : Addr → Prop) : List V → List Addr → List (NestedKey × Addr × Value) → List (PyData × PyData) → Prop
  | nil : PrT X s H M [] [] [] []
  | cons {T : Addr} {n : NestedKey} {b : Addr} {u : Value} {v : V} {k d : PyData} {ys : List V} {Ts : List Addr} {es : List (NestedKey × Addr × Value)} {ps : List (PyData × PyData)} :
      s.heap.IsTuple T #[.ref b, u] → toKey k = some n → keyOk true k = true → Rp X.K X.prog X.w H M (.ref b) k → RelV v u → Rp X.K X.prog X.w H M v d → PrT X s H M ys Ts es ps → PrT X s H M (.ref T :: ys) (T :: Ts) ((n, b, u) :: es) ((k, d) :: ps)
theorem prT_of (I : Inv X pins σ H s) : ∀ {ys : List V} {ds : List PyData} {ps : List (PyData × PyData)}, RpA X.K X.prog X.w H M ys ds → pairsOf ds = some ps → (∀ p ∈ ps, keyOk true p.1 = true) → ∃ Ts es, PrT X s H M ys Ts es ps
  | [], [], ps, _, e, _ => by cases e; exact ⟨[], [], .nil⟩
  | y :: ys, d :: ds, ps, .cons h r, e, ok => by
    obtain ⟨k, v, qs, rfl, e2, rfl⟩ := pairsOf_cons e
    obtain ⟨Ts, es, P⟩ := prT_of I r e2 fun p hp => ok p (.tail _ hp)
    cases h with
    | tup ha ra =>
      rename_i T xs
      obtain ⟨its, rv, ht, _⟩ := I.tuple (SqT.of (K := X.K) ha)
      cases ra with
      | cons r1 ra =>
        cases ra with
        | cons r2 ra =>
          cases ra
          cases rv with
          | cons q1 rv =>
            cases rv with
            | cons q2 rv =>
              cases rv
              have ok1 := ok _ (.head _)
              obtain ⟨_, n, rfl, hk, _⟩ := keyOk_t ok1
              obtain ⟨b, rfl, rfl, _⟩ := key_is I ok1 hk r1 q1
              exact ⟨T :: Ts, _ :: es, .cons ht hk ok1 r1 q2 r2 P⟩
theorem PrT.rel : ∀ {ys : List V} {Ts : List Addr} {es : List (NestedKey × Addr × Value)} {ps : List (PyData × PyData)}, PrT X s H M ys Ts es ps → ∀ {acc : List (NestedKey × Addr × Value)} {kvs : List (PyData × PyData)}, (acc.map (·.1)).Nodup → RpT X.K X.prog X.w H M acc kvs →
    RpT X.K X.prog X.w H M (storedAllH acc es) (dputs kvs ps)
  | _, _, _, _, .nil, acc, kvs, _, r => r
  | _, _, _, _, .cons (n := n) (b := b) (u := u) (k := k) (d := d) (es := es) (ps := ps) _ hk ok rk q rd P, acc, kvs, nd, r => by
    show RpT X.K X.prog X.w H M (storedAllH (storedH acc n b u) es) (dputs (dput k d kvs) ps)
    exact P.rel (mem_keys_storedH nd).1 (rpt_put hk ok rk q rd nd r)
theorem PrT.refs : ∀ {ys : List V} {Ts : List Addr} {es : List (NestedKey × Addr × Value)} {ps : List (PyData × PyData)} {its : List Value}, PrT X s H M ys Ts es ps → Vals ys its → its = Ts.map Value.ref ∧ Ts.length = es.length ∧ es.length = ps.length
  | _, _, _, _, _, .nil, .nil => ⟨rfl, rfl, rfl⟩
  | _, _, _, _, _, .cons _ _ _ _ _ _ P, .cons q rv => by
    obtain ⟨h1, h2, h3⟩ := P.refs rv
    cases q
    exact ⟨by rw [h1]; rfl, by rw [List.length_cons, List.length_cons, h2], by rw [List.length_cons, List.length_cons, h3]⟩
theorem PrT.get : ∀ {ys : List V} {Ts : List Addr} {es : List (NestedKey × Addr × Value)} {ps : List (PyData × PyData)}, PrT X s H M ys Ts es ps → ∀ {j : Nat} {e : NestedKey × Addr × Value}, es[j]? = some e → ∃ T, Ts[j]? = some T ∧ s.heap.IsTuple T #[.ref e.2.1, e.2.2]
  | _, _, _, _, .cons h _ _ _ _ _ P, 0, e, he => by cases he; exact ⟨_, rfl, h⟩
  | _, _, _, _, .cons h _ _ _ _ _ P, j + 1, e, he => by
    rw [List.getElem?_cons_succ] at he ⊢
    exact P.get he
theorem PrT.keys (I : Inv X pins σ H s) : ∀ {ys : List V} {Ts : List Addr} {es : List (NestedKey × Addr × Value)} {ps : List (PyData × PyData)}, PrT X s H M ys Ts es ps → ∀ x ∈ es, ∃ ds, toKey (.tuple ds) = some x.1 ∧ keyOk true (.tuple ds) = true ∧ Rp X.K X.prog X.w H M (.ref x.2.1) (.tuple ds)
  | _, _, _, _, .cons _ hk ok rk _ _ P, x, hx => by
    rcases List.mem_cons.mp hx with rfl | hx
    · obtain ⟨ds, n, rfl, _, _⟩ := keyOk_t ok
      exact ⟨ds, hk, ok, rk⟩
    · exact P.keys I x hx
theorem storedAllH_le : ∀ (ps acc : List (NestedKey × Addr × Value)), (storedAllH acc ps).length ≤ acc.length + ps.length
  | [], acc => Nat.le_refl _
  | p :: ps, acc => by
    have h1 := storedAllH_le ps (storedH acc p.1 p.2.1 p.2.2)
    have h2 := storedH_len acc p.1 p.2.1 p.2.2
    show (storedAllH (storedH acc p.1 p.2.1 p.2.2) ps).length ≤ _
    rw [List.length_cons]; omega
/-- dict(xs), xs pairs with tuple keys -/
theorem call_dictT (hc : X.calm = true) (hu : X.A.units + 80 < cLine) : CallR X (.type "dict") (fun vs H Q => ∃ M a ds ys ps, vs = [.ref a] ∧ H a = some (.lst ys) ∧ RpA X.K X.prog X.w H M ys ds ∧ pairsOf ds = some ps ∧ (∀ p ∈ ps, keyOk true p.1 = true) ∧
    ∀ p es, H p = none → RpT X.K X.prog X.w H M es (dputs [] ps) → Q (.ref p) (upd H p (DkO X.prog X.w p es))) := by
  rintro pins s σ H vs us Q I rv ⟨M, a, ds, ys, ps, rfl, ha, ra, hp, ok, q⟩
  rw [Vals.ref1 rv]
  obtain ⟨Ts, es, P⟩ := prT_of I ra hp ok
  obtain ⟨its, rvi, pl, hz⟩ := I.list (SqL.of (K := X.K) ha)
  obtain ⟨e1, e2, e3⟩ := P.refs rvi
  have hlen : es.length ≤ sizeLine := by
    have := rvi.length
    rw [e1, List.length_map] at this
    omega
  obtain ⟨o, n, ho, hcl, hdn, hdat⟩ := pl
  have hps : ((es.map fun e => (Value.ref e.2.1, e.2.2)) : List (Value × Value)).length = es.length := List.length_map _
  have A1 := PairArg.list (prog := X.prog) (w := X.w) a its.toArray (fun j => Ts.getD j 0) (es.map fun e => (Value.ref e.2.1, e.2.2))
  refine call_dict_pairsH (knd := nestedKind X.prog X.w) (ps := es) A1 (I.ok.hd hc) (show X.A.in1.in1.units + 8 < cLine by show X.A.units + 1 + 1 + 8 < _; omega) ⟨⟨o, n, ho, hcl, hdn, hdat⟩, ?_, fun j k v hj => ?_⟩ ⟨hps.symm, fun i key v hi => ?_⟩ (fun h' hk x hx => ?_) (by rw [hps]; exact hlen) fun h' tk dd hk => ?_
  · rw [e1, List.size_toArray, List.length_map, List.length_map]; exact e2
  · rw [List.getElem?_map] at hj
    obtain ⟨e, he, hke⟩ := Option.map_eq_some_iff.mp hj
    cases hke
    obtain ⟨T, hT, ht⟩ := P.get he
    have hg : Ts.getD j 0 = T := by rw [List.getD_eq_getElem?_getD, hT]; rfl
    show its.toArray[j]? = some (Value.ref (Ts.getD j 0)) ∧ PairAt s.heap (Ts.getD j 0) (Value.ref e.snd.fst) e.snd.snd
    rw [hg]
    refine ⟨?_, .inl ht⟩
    rw [List.getElem?_toArray, e1, List.getElem?_map, hT]; rfl
  · have hi' : (es.map fun e => (Value.ref e.2.1, e.2.2))[i]? = some (key, v) := hi
    rw [List.getElem?_map] at hi'
    obtain ⟨e, he, hke⟩ := Option.map_eq_some_iff.mp hi'
    cases hke
    exact ⟨e.1, e.2.1, he, rfl⟩
  · obtain ⟨ds, z1, z2, z3⟩ := P.keys I x hx
    have I' : Inv X pins σ H { s with heap := h' } := I.kept (t' := s.toks) fun b o e => hk b o (Nat.ne_of_lt (Heap.lt_size e)) (by simp) e
    obtain ⟨b, h1, h2, N⟩ := key_is I' z2 z1 z3 (show RelV (.ref x.2.1) (.ref x.2.1) from rfl)
    cases h1
    exact N
  · obtain ⟨o', en, ep, hq, h2, h3, h4, _, h5⟩ := dd
    have hl := storedAllH_le es []
    exact ⟨.ref s.heap.objs.size, _, I.laid (a := s.heap.objs.size) (o := DkO X.prog X.w s.heap.objs.size (storedAllH [] es)) (t' := tk) (fun b o e => hk b o (by simp) e) (Nat.le_refl _)
      (dko_ok (beq_eq_false_iff_ne.mpr (Ne.symm (Nat.ne_of_lt I.big))) (by rw [List.length_nil, Nat.zero_add] at hl; omega) hq h2 h3 h4 h5), rfl, q _ _ (I.hok.fresh (Nat.le_refl _)) (P.rel List.nodup_nil .nil)⟩
theorem prK_of : ∀ {ys : List V} {ds : List PyData} {ps : List (PyData × PyData)}, RpA X.K X.prog X.w H M ys ds → pairsOf ds = some ps → (∀ p ∈ ps, keyOk false p.1 = true) →
    ∃ (as : List Addr) (kvs : List (Key × V)), ys = as.map V.ref ∧ Paired (fun p kv => SqT X.K H p [kV kv.1, kv.2]) as kvs ∧ ∀ (acc : List (Key × V)) (rs : List (PyData × PyData)), (acc.map (·.1)).Nodup → RpK X.K X.prog X.w H M acc rs → RpK X.K X.prog X.w H M (mergeK acc kvs) (dputs rs ps)
  | [], [], ps, _, e, _ => by cases e; exact ⟨[], [], rfl, .nil, fun _ _ _ r => r⟩
  | y :: ys, d :: ds, ps, .cons h r, e, ok => by
    obtain ⟨k, v, qs, rfl, e2, rfl⟩ := pairsOf_cons e
    obtain ⟨as, kvs, rfl, P, R⟩ := prK_of r e2 fun p hp => ok p (.tail _ hp)
    cases h with
    | tup ha ra =>
      rename_i T xs
      cases ra with
      | cons r1 ra =>
        cases ra with
        | cons r2 ra =>
          cases ra
          obtain ⟨q, rfl⟩ := keyOk_f (ok _ (.head _))
          obtain rfl := RpR.keyD (.inl r1)
          refine ⟨T :: as, (q, _) :: kvs, rfl, .cons (SqT.of ha) P, fun acc rs nd rr => ?_⟩
          exact R _ _ (mem_keys_putK nd).1 (rpk_put r2 nd rr)
theorem call_dictK (hc : X.calm = true) : CallR X (.type "dict") (fun vs H Q => ∃ M a ds ys ps, vs = [.ref a] ∧ H a = some (.lst ys) ∧ RpA X.K X.prog X.w H M ys ds ∧ pairsOf ds = some ps ∧ (∀ p ∈ ps, keyOk false p.1 = true) ∧
    ∀ p es, H p = none → RpK X.K X.prog X.w H M es (dputs [] ps) → Q (.ref p) (upd H p (.dK es))) := by
  rintro pins s σ H vs us Q I rv ⟨M, a, ds, ys, ps, rfl, ha, ra, hp, ok, q⟩
  obtain ⟨as, kvs, rfl, P, R⟩ := prK_of ra hp ok
  exact call_dictP hc pins s σ H _ us Q I rv ⟨a, as, kvs, rfl, SqL.of ha, P, fun p hp => q p _ hp (R [] [] List.nodup_nil .nil)⟩
theorem RpT.newD {P : Program} {w : World} {K : PySem.W.Frag} {H : Hp} {M : Addr → Prop} {es : List (NestedKey × Addr × Value)} {kvs : List (PyData × PyData)} {p : Addr} (h : RpT K P w H M es kvs) (m : Mh H M) (hp : H p = none) : Rp K P w (upd H p (DkO P w p es)) M (.ref p) (dictT kvs) :=
  .dT upd_same (m.new (nn_of hp)) (RpT.sm (Sm.new hp) h)
theorem RpK.newD {P : Program} {w : World} {K : PySem.W.Frag} {H : Hp} {M : Addr → Prop} {es : List (Key × V)} {kvs : List (PyData × PyData)} {p : Addr} (h : RpK K P w H M es kvs) (m : Mh H M) (hp : H p = none) : Rp K P w (upd H p (.dK es)) M (.ref p) (dictK kvs) :=
  .dK upd_same (m.new (nn_of hp)) (RpK.sm (Sm.new hp) h)
theorem cb_dict (hc : X.calm = true) (hu : X.A.units + 80 < cLine) : CallR X (.type "dict") (rBi X.K X.prog X.w .dict) := by
  rintro pins s σ H vs us Q I rv ⟨M, ds, r, mh, hx, hf, k⟩
  have no : ¬ (Bi.dict = Bi.list ∨ Bi.dict = Bi.sorted) := by decide
  obtain ⟨xs, rfl, hf'⟩ : ∃ xs, ds = [.list xs] ∧ pdict xs = .ok r := by
    unfold pbi at hf
    split at hf <;> first | (rename_i h; cases h; done) | (exact ⟨_, rfl, hf⟩) | (cases hf; done)
  obtain ⟨v, rfl, hv⟩ := one_of hx
  obtain ⟨a, ys, rfl, ha, ra⟩ := hv.lst
  unfold pdict at hf'
  split at hf'
  · rename_i ps hps
    by_cases k1 : ps.all (fun p => keyOk true p.1) = true
    · rw [if_pos k1] at hf'
      cases hf'
      exact call_dictT hc hu pins s σ H _ us Q I rv ⟨M, a, xs, ys, ps, rfl, ha, ra, hps, fun p hp => List.all_eq_true.mp k1 p hp, fun p es hp re => k _ _ (Sm.new hp) (re.newD mh hp) fun z => (no z).elim⟩
    · rw [if_neg k1] at hf'
      by_cases k2 : ps.all (fun p => keyOk false p.1) = true
      · rw [if_pos k2] at hf'
        cases hf'
        exact call_dictK hc pins s σ H _ us Q I rv ⟨M, a, xs, ys, ps, rfl, ha, ra, hps, fun p hp => List.all_eq_true.mp k2 p hp, fun p es hp re => k _ _ (Sm.new hp) (re.newD mh hp) fun z => (no z).elim⟩
      · rw [if_neg k2] at hf'; cases hf'
  · cases hf'
end
end Iv
end

section
/-! IvT: tuples in built-ins, more of dicts. -/
namespace Iv
open PySem L2 PyProof.Rows
variable [Tb]

section
variable {X : Cx}
/-! ### min of a tuple -/
theorem alike_intL (ns : List Int) : PySem.W.AlikeAll (ns.map .int) := by
  refine ⟨fun x hx y hy => ?_, fun x hx => ?_⟩
  · obtain ⟨i, _, rfl⟩ := List.mem_map.mp hx
    obtain ⟨j, _, rfl⟩ := List.mem_map.mp hy
    rw [PySem.W.alike]
  · obtain ⟨i, _, rfl⟩ := List.mem_map.mp hx
    exact fun z => nomatch z
theorem depth_intL : ∀ ns : List Int, PyData.depthAll (ns.map .int) = 0
  | [] => by rw [List.map_nil, PyData.depthAll]
  | n :: ns => by rw [List.map_cons, PyData.depthAll, depth_intL ns, PyData.depth] <;> simp
theorem fold_min : ∀ (r : List Int) (x : Int), r.foldl min x = minOf x r
  | [], x => rfl
  | y :: r, x => by
    rw [List.foldl_cons, fold_min r, minOf]
    congr 1
    split <;> omega
theorem dpAll_ints {K : PySem.W.Frag} {H : Hp} : ∀ ns : List Int, DpAll K H (ns.map V.int) (ns.map .int)
  | [] => .nil
  | n :: ns => .cons (.int n) (dpAll_ints ns)
theorem cr_minT (hc : X.calm = true) (hu : X.A.units + 80 < cLine) : CallR X (.builtin "min") (fun vs H Q => ∃ (a : Addr) (x : Int) (r : List Int), vs = [.ref a] ∧ SqT X.K H a ((x :: r).map V.int) ∧ Q (.int (minOf x r)) H) := by
  rintro pins s σ H vs us Q I rv ⟨a, x, r, rfl, ha, q⟩
  obtain ⟨its, rvi, hl, hz⟩ := I.tuple ha
  rw [Vals.ref1 rv]
  obtain ⟨as, hr⟩ := Dp.readsAll I ((x :: r).map .int) _ _ (dpAll_ints (K := X.K) (H := H) (x :: r)) rvi
  refine PySem.W.min_tuple_data (I.ok.hd hc) hl (x := .int x) (xs := r.map .int) (as := as) (by rw [List.toList_toArray]; exact hr) (alike_intL (x :: r)) (by
    have := depth_intL (x :: r)
    rw [List.map_cons] at this
    rw [this]; omega) fun i v h' tk bs hv rd hk => ?_
  rw [PySem.W.minD_ints, fold_min] at rd
  cases rd
  exact ⟨.int _, H, I.kept (t' := tk) hk, ⟨_, rfl⟩, q⟩

/-! ### sorted of what is collected -/
mutual
theorem rd_mem {h : Heap} : ∀ {d : PyData} {v : Value} {as : List Addr}, Reads h v d as → ∀ a ∈ as, ∃ o, h.get? a = some o
  | .none, _, _, r, a, m => by cases r; cases m
  | .bool _, _, _, r, a, m => by cases r; cases m
  | .int _, _, _, r, a, m => by cases r; cases m
  | .str _, _, _, r, a, m => by cases r; cases m
  | .list xs, _, _, r, a, m => by
    cases r with
    | list h1 h2 h3 h4 =>
      rcases List.mem_cons.mp m with e | m
      · rw [e]; exact ⟨_, h1⟩
      · exact rd_memAll h4 a m
  | .tuple xs, _, _, r, a, m => by
    cases r with
    | tuple h1 h2 h3 h4 => exact rd_memAll h4 a m
  | .dict kvs, _, _, r, a, m => by
    cases r with
    | dict h1 h2 h3 h4 h5 =>
      rcases List.mem_append.mp m with m | m
      · rcases List.mem_cons.mp m with e | m
        · rw [e]; exact ⟨_, h1⟩
        · exact rd_memK h4 a m
      · exact rd_memV h5 a m
theorem rd_memAll {h : Heap} : ∀ {ds : List PyData} {vs : List Value} {as : List Addr}, ReadsAll h vs ds as → ∀ a ∈ as, ∃ o, h.get? a = some o
  | [], _, _, r, a, m => by cases r; cases m
  | d :: ds, _, _, r, a, m => by
    cases r with
    | cons h1 h2 =>
      rcases List.mem_append.mp m with m | m
      · exact rd_mem h1 a m
      · exact rd_memAll h2 a m
theorem rd_memK {h : Heap} : ∀ {kvs : List (PyData × PyData)} {vs : List Value} {as : List Addr}, ReadsAll h vs (kvs.map (·.1)) as → ∀ a ∈ as, ∃ o, h.get? a = some o
  | [], _, _, r, a, m => by cases r; cases m
  | (k, v) :: kvs, _, _, r, a, m => by
    cases r with
    | cons h1 h2 =>
      rcases List.mem_append.mp m with m | m
      · exact rd_mem h1 a m
      · exact rd_memK h2 a m
theorem rd_memV {h : Heap} : ∀ {kvs : List (PyData × PyData)} {vs : List Value} {as : List Addr}, ReadsAll h vs (kvs.map (·.2)) as → ∀ a ∈ as, ∃ o, h.get? a = some o
  | [], _, _, r, a, m => by cases r; cases m
  | (k, v) :: kvs, _, _, r, a, m => by
    cases r with
    | cons h1 h2 =>
      rcases List.mem_append.mp m with m | m
      · exact rd_mem h1 a m
      · exact rd_memV h2 a m
end
theorem sort_go {P : Program} {w : World} {A : Around} {E : Value → Shared → Prop} {Q : Value → Shared → Prop} {s : Shared} {v : Value} {bs : List PyData} {Rr : Heap → Value → PyData → Prop}
    (hcol : ∀ R : List Value → Shared → Prop, (∀ h' tk vs, (∀ b o, s.heap.get? b = some o → h'.get? b = some o) → vs.length = bs.length → PySem.W.EachIs (Rr h') vs bs → PySem.W.EachIs (fun v b => ∃ as, Reads h' v b as) vs bs → R vs { s with heap := h', toks := tk }) →
      wpAny (model P w) A.in1 (collect v) R E s)
    (hal : PySem.W.AllAlike bs) (hk : PySem.W.Sortable bs) (hL : bs.length ≤ sizeLine) (hu : ∀ b ∈ bs, A.units + 2 + b.depth < cLine)
    (go : ∀ h1 h' tk p out c, (∀ b o, s.heap.get? b = some o → h1.get? b = some o) → (∀ b o, h1.get? b = some o → h'.get? b = some o) → h1.objs.size ≤ p → h'.get? p = some (seqObj "list" (List.toArray out) c) → out.length = bs.length →
      PySem.W.EachIs (Rr h1) out (bs.mergeSort (PySem.W.dataLe false id)) → Q (.ref p) { s with heap := h', toks := tk }) :
    wpAny (model P w) A (call (.builtin "sorted") [v]) Q E s := by
  refine Calls.call_function_entry kind_sorted plain_sorted entry_sorted (args_sorted1 _) ?_
  unfold Builtin.«sorted»
  refine wpAny_bind (m := checkCount "sorted" 1 1 _) (wpAny_pure (wpAny_bind (hcol _ fun h1 tk vs k1 hl er rd => ?_)))
  refine wpAny_bind (wpAny_newList ?_ (by rw [hl]; exact hL))
  have hoL : (h1.push (seqObj "list" vs.toArray 0)).get? h1.objs.size = some (seqObj "list" vs.toArray 0) := Heap.get?_push_size _ rfl
  have old : ∀ b o, h1.get? b = some o → (h1.push (seqObj "list" vs.toArray 0)).get? b = some o := fun b o e => Heap.get?_push_of_some _ e
  have nf : ∀ as v b, Reads h1 v b as → h1.objs.size ∉ as := fun as v b rd hm => by
    obtain ⟨o, ho⟩ := rd_mem rd _ hm
    exact Nat.lt_irrefl _ (Heap.lt_size ho)
  refine wpAny_bind (wpAny_holding (PySem.W.list_sort_data (R := Rr h1) (enc := id) (vs := vs) (bs := bs) hoL er (rd.mono fun v b ⟨as, r⟩ => ⟨as, PyProof.Rows.Reads.keeps old r, nf as v b r⟩) (by rw [List.map_id]; exact hal) (by rw [List.map_id]; exact hk) hL
    (fun b hb => by have := hu b hb; show A.units + 1 + 1 + b.depth < cLine; omega) fun out ho eo => ?_))
  obtain ⟨c, hc⟩ := sortedHeap_at (vs := vs) (out := List.toArray out) hoL
  refine wpAny_pure ⟨_, rfl, go h1 _ tk h1.objs.size out c k1 (fun b u e => ?_) (Nat.le_refl _) hc ho eo⟩
  have hlt := Heap.lt_size e
  show (sortedHeap (h1.push (seqObj "list" vs.toArray 0)) h1.objs.size vs (List.toArray out)).get? b = some u
  rw [sortedHeap_old (Nat.ne_of_lt hlt) (by rw [size_push']; exact Nat.lt_succ_of_lt hlt)]
  exact Heap.get?_push_of_some _ e

/-- the sorted list, as the layer tells it -/
theorem sorted_rp {A0 : Unit} {pins : List (Addr × Obj)} {σ : L2.St} {H : Hp} {s : Shared} {Q : VK} {M : Addr → Prop} {v : Value} {ds : List PyData} (hu : X.A.units + 80 < cLine) (I : Inv X pins σ H s) (mh : Mh H M)
    (hcol : ∀ (R : List Value → Shared → Prop) (E : Value → Shared → Prop), (∀ h' tk vs, (∀ b o, s.heap.get? b = some o → h'.get? b = some o) → (∃ ys, RpA X.K X.prog X.w H M ys ds ∧ Vals ys vs) → R vs { s with heap := h', toks := tk }) →
      wpAny (model X.prog X.w) X.A.in1 (collect v) R E s)
    (hs : sortOk ds = true) (k : ∀ v H', Sm H H' → Rp X.K X.prog X.w H' M v (.list (srt ds)) → NewL X.K X.prog X.w H H' M v (.list (srt ds)) → Q v H') :
    wpAny (model X.prog X.w) X.A (call (.builtin "sorted") [v]) (EP X pins σ Q) X.xe s := by
  obtain ⟨h1, h2, h3, h4⟩ := sortOk_and hs
  have ndx : ∀ d ∈ ds, nd d = true := fun d hd => nd_alike d (h1 d hd d hd)
  refine sort_go (Rr := fun _ u d => ∃ x, RelV x u ∧ Rp X.K X.prog X.w H M x d) (bs := ds) (fun R h => hcol R _ fun h' tk vs hk ⟨ys, ra, rv⟩ => h h' tk vs hk (by rw [← rv.length, ra.length]) (ra.each rv) ?_) h1 h2 (lim_size h4) (fun b hb => by have := h3 b hb; omega) fun g1 g' tk p out c k1 k2 hp hc ho eo => ?_
  · exact RpA.reads (I.kept (h' := h') (t' := tk) hk) ndx ra rv
  · obtain ⟨zs, vo, ro⟩ := RpA.ofEach eo
    have I1 : Inv X pins σ H { s with heap := g1, toks := tk } := I.kept (h' := g1) (t' := tk) k1
    have hn : H p = none := I1.hok.fresh hp
    have hzl : zs.length ≤ sizeLine := by
      rw [vo.length, ho]; exact lim_size h4
    exact ⟨.ref p, upd H p (.lst zs), I1.laid (t' := tk) k2 hp ⟨hzl, out, c, vo, hc⟩, rfl, k _ _ (Sm.new hn) (ro.newLst mh hn) ⟨p, zs, _, rfl, rfl, nn_of hn, upd_same, ro.grow (nn_of hn) (Sm.new hn)⟩⟩
theorem cr_sortedT (hu : X.A.units + 80 < cLine) : CallR X (.builtin "sorted") (fun vs H Q => ∃ M a ys ds, vs = [.ref a] ∧ Mh H M ∧ SqT X.K H a ys ∧ RpA X.K X.prog X.w H M ys ds ∧ sortOk ds = true ∧
    ∀ v H', Sm H H' → Rp X.K X.prog X.w H' M v (.list (srt ds)) → NewL X.K X.prog X.w H H' M v (.list (srt ds)) → Q v H') := by
  rintro pins s σ H vs us Q I rv ⟨M, a, ys, ds, rfl, mh, ha, ra, hs, k⟩
  obtain ⟨its, rvi, ⟨o, ho, hc, n, hd⟩, hz⟩ := I.tuple ha
  rw [Vals.ref1 rv]
  refine sorted_rp (A0 := ()) hu I mh (fun R E h => wpAny_collect_seq a (.inr rfl) ho hc hd (fun h' hk => h h' s.toks _ hk ⟨ys, ra, by rw [List.toList_toArray]; exact rvi⟩) (by rw [List.size_toArray, ← rvi.length]; exact hz)) hs k
/-- sorted(a dict with tuple keys) -/
theorem cr_sortedD (hc : X.calm = true) (hu : X.A.units + 80 < cLine) : CallR X (.builtin "sorted") (fun vs H Q => ∃ M a es kvs, vs = [.ref a] ∧ Mh H M ∧ H a = some (DkO X.prog X.w a es) ∧ RpT X.K X.prog X.w H M es kvs ∧ sortOk (kvs.map (·.1)) = true ∧
    ∀ v H', Sm H H' → Rp X.K X.prog X.w H' M v (.list (srt (kvs.map (·.1)))) → NewL X.K X.prog X.w H H' M v (.list (srt (kvs.map (·.1)))) → Q v H') := by
  rintro pins s σ H vs us Q I rv ⟨M, a, es, kvs, rfl, mh, ha, ra, hs, k⟩
  rw [Vals.ref1 rv]
  obtain ⟨⟨h1, h2, o, en, ep, h3, h4, h5, h6, h7⟩, _⟩ := I.hok _ _ ha
  have hlen : en.size = es.length := by
    have := congrArg List.length h6
    rw [List.length_map, Array.length_toList] at this
    exact this
  refine sorted_rp (A0 := ()) hu I mh (fun R E h => PySem.W.kdu_collect (KdlSrc.rawDict (es := en) (ep := ep) h1) (I.ok.hd hc) ⟨o, h3, h4, h5⟩ (by rw [hlen]; exact h2) (fun h' tk acc hk it => h h' tk _ hk ?_)) hs k
  obtain ⟨i1, i2⟩ := it
  have hv : acc.toList = es.map fun x => Value.ref x.2.1 := by
    apply List.ext_getElem?
    intro j
    by_cases hj : j < acc.size
    · have e1 : acc.toList[j]? = some acc[j] := by rw [Array.getElem?_toList, Array.getElem?_eq_getElem hj]
      obtain ⟨hi, e2⟩ := i2 j acc[j] (by rw [Array.getElem?_eq_getElem hj])
      rw [e1, e2]
      have e3 : en.toList[j]? = some en[j] := by rw [Array.getElem?_toList, Array.getElem?_eq_getElem hi]
      rw [h6, List.getElem?_map] at e3
      rw [List.getElem?_map]
      cases q : es[j]? with
      | none => rw [q] at e3; cases e3
      | some x =>
        rw [q] at e3
        have e4 : entryOfKey (nestedKind X.prog X.w) x = en[j] := Option.some.inj e3
        show some (en[j]).key = some (Value.ref x.2.1)
        rw [← e4]; rfl
    · rw [List.getElem?_eq_none (by rw [Array.length_toList]; omega), List.getElem?_eq_none (by rw [List.length_map, ← hlen, ← i1]; omega)]
  rw [hv]
  clear hs k i2 h6 hlen hv
  have : ∀ {es : List (NestedKey × Addr × Value)} {kvs : List (PyData × PyData)}, RpT X.K X.prog X.w H M es kvs → ∃ ys, RpA X.K X.prog X.w H M ys (kvs.map (·.1)) ∧ Vals ys (es.map fun x => Value.ref x.2.1) := by
    intro es kvs r
    induction es generalizing kvs with
    | nil => cases r; exact ⟨[], .nil, .nil⟩
    | cons x es ih =>
      cases r with
      | cons a b c d e t =>
        obtain ⟨ys, q1, q2⟩ := ih t
        exact ⟨_ :: ys, .cons c q1, .cons rfl q2⟩
  exact this ra

/-! ### methods of what P tells -/
theorem pe_mG {Pd : V → Hp → Prop} {T : String} {name : Str} {id : String} {r : V → List V → Hp → VK → Prop} {o e : Expr} {es : List Expr} {to : TE} {t : TA} {apos cpos : Pos} (pa : PlainAttrs T) (slot : PySem.Slot T name id) (hty : typeOf (.builtin id) = pure (.type "method_descriptor"))
    (hT : ∀ {pins : List (Addr × Obj)} {σ : L2.St} {H : Hp} {s : Shared} {x : V} {v : Value}, Inv X pins σ H s → RelV x v → Pd x H → s.TypeIs v T ∧ ∀ a, v = .ref a → ∃ ob, s.heap.get? a = some ob ∧ ob.dict = none)
    (hm : MtR X id r) (ho : PE X o to) (ha : PA X (e :: es) t) (hbase : attributeBase o name X.env (eval o X.env) = eval o X.env)
    (hfew : ((backTo cpos (starEach (e :: es) X.env)).all (fun x => !x.1) && (backToKw cpos (keywordEach [] X.env)).all (fun x => x.1.isSome)
      && decide ((e :: es).length + ([] : List Keyword).length + (if ([] : List Keyword).isEmpty then 0 else 1) < 30)) = true)
    (hline : (apos.endLine == cpos.line) = true) (hs : starEach (e :: es) X.env = (false, eval e X.env) :: starEach es X.env) (hplain : (backTo cpos (starEach es X.env)).any (·.1) = false) :
    PE X (.Call (.Attribute o name apos) (e :: es) [] cpos) (fun σ H Q => to σ H fun x H1 => Pd x H1 ∧ t σ H1 fun xs H2 => r x xs H2 Q) := by
  refine ⟨fun pins s σ H Q I h => ?_⟩
  have hcall := wpAny_Call_method_late (prog := X.prog) (w := X.w) (A := X.A) (E := X.xe) (s := s) (Q := EP X pins σ Q) hbase hfew hline rfl (thn (ho.run pins s σ H _ I h) fun v s1 z => by
    obtain ⟨x, H1, I1, r1, ty, q1⟩ := z
    obtain ⟨h1, h2⟩ := hT I1 r1 ty
    have hA := ha.run cpos pins s1 σ H1 _ I1 q1
    refine ⟨T, id, pa, slot, hty, h1, h2, ?_⟩
    rw [hs] at hA
    rw [hs]
    refine Calls.callWith_builtin ?_ (Calls.evalArgs_plain (thn hA fun us s2 y => ?_))
    · have : (false || (backTo cpos (starEach es X.env)).any (·.1)) = false := by rw [hplain]; rfl
      exact this
    · obtain ⟨vs, H2, I2, r2, q2⟩ := y
      exact hm pins s2 σ H2 x vs v us Q I2 r1 r2 q2)
  exact hcall
/-! ### d.get(k, z) -/
theorem me_getT (hu : X.A.units + 80 < cLine) : MtR X "dict.get" (fun x vs H Q => ∃ M kvs kd y z zd, RpR X.K X.prog X.w H M x (dictT kvs) ∧ vs = [y, z] ∧ Rp X.K X.prog X.w H M y kd ∧ keyOk true kd = true ∧ Rp X.K X.prog X.w H M z zd ∧ ∀ v, Rp X.K X.prog X.w H M v ((dget kd kvs).getD zd) → Q v H) := by
  rintro pins s σ H x vs v us Q I rx rv ⟨M, kvs, kd, y, z, zd, hx, rfl, hy, ok, hz, k⟩
  obtain ⟨a, es, rfl, ha, rt⟩ := RpR.dT hx
  obtain ⟨ds, n, rfl, hk, _⟩ := keyOk_t ok
  cases rx
  cases rv with
  | cons r1 rv =>
    cases rv with
    | cons r2 rv =>
      cases rv
      obtain ⟨b, rfl, rfl, N⟩ := key_is I ok hk hy r1
      obtain ⟨D, hd, _⟩ := dko_is I ha rt
      refine call_meetsIn PySem.F.slot_dict_get D.typeIs PySem.F.entry_dict_get (PySem.F.args_dict_get_3 _ _ _) (meetsH_dict_get_default (nestedKind X.prog X.w) a b hd _) ⟨show X.A.in1.units + 8 < cLine by show X.A.units + 1 + 8 < _; omega, n, es, N, D, ?_⟩
      rcases rpt_get hk rt with ⟨q1, q2⟩ | ⟨d', b', u', v', q1, q2, q3, q4⟩
      · rw [q1] at k
        rw [q2]
        exact ⟨z, H, I.tok _, r2, k _ hz⟩
      · rw [q1] at k
        rw [q2]
        exact ⟨v', H, I.tok _, q3, k _ q4⟩
theorem me_getK (hu : X.A.units + 80 < cLine) : MtR X "dict.get" (fun x vs H Q => ∃ M kvs kd y z zd, RpR X.K X.prog X.w H M x (dictK kvs) ∧ vs = [y, z] ∧ Rp X.K X.prog X.w H M y kd ∧ keyOk false kd = true ∧ Rp X.K X.prog X.w H M z zd ∧ ∀ v, Rp X.K X.prog X.w H M v ((dget kd kvs).getD zd) → Q v H) := by
  rintro pins s σ H x vs v us Q I rx rv ⟨M, kvs, kd, y, z, zd, hx, rfl, hy, ok, hz, k⟩
  obtain ⟨a, es, rfl, ha, rt⟩ := RpR.dK hx
  obtain ⟨q, rfl⟩ := keyOk_f ok
  obtain rfl := RpR.keyD (.inl hy)
  cases rx
  cases rv with
  | cons r1 rv =>
    cases rv with
    | cons r2 rv =>
      cases rv
      have g : DGet H a (kV q) (valV es q) := DGet.k (k := q) ha
      refine d_get2 (by omega) I g r1 r2 fun w' s3 I3 rw' => ?_
      rcases rpk_get q rt with ⟨q1, q2⟩ | ⟨d', v', q1, q2, q4⟩
      · rw [q1] at k
        rw [q2] at rw'
        exact ⟨z, H, I3, rw', k _ hz⟩
      · rw [q1] at k
        rw [q2] at rw'
        exact ⟨v', H, I3, rw', k _ q4⟩
theorem get_ty {M : Addr → Prop} {pins : List (Addr × Obj)} {σ : L2.St} {H : Hp} {s : Shared} {x : V} {v : Value} (I : Inv X pins σ H s) (r : RelV x v) (h : ∃ kvs M, RpR X.K X.prog X.w H M x (dictT kvs) ∨ RpR X.K X.prog X.w H M x (dictK kvs)) :
    s.TypeIs v "dict" ∧ ∀ a, v = .ref a → ∃ ob, s.heap.get? a = some ob ∧ ob.dict = none := by
  obtain ⟨kvs, M, h | h⟩ := h
  · obtain ⟨a, es, rfl, ha, rt⟩ := RpR.dT h
    cases r
    obtain ⟨D, hd, _⟩ := dko_is I ha rt
    obtain ⟨o, en, ep, h1, h2, _⟩ := id D
    exact ⟨D.typeIs, fun b e => by cases e; exact ⟨o, h1, h2.2.1⟩⟩
  · obtain ⟨a, es, rfl, ha, rt⟩ := RpR.dK h
    cases r
    obtain ⟨h1, h2, _⟩ := isD_at I (.inl ⟨es, .inl ha⟩)
    exact ⟨h1, h2⟩
/-! ### xs.count(x) -/
theorem me_count (hu : X.A.units + 80 < cLine) : MtR X "list.count" (fun x vs H Q => ∃ M ds y d, RpR X.K X.prog X.w H M x (.list ds) ∧ vs = [y] ∧ Rp X.K X.prog X.w H M y d ∧ SeqAt.shaped d = true ∧ SeqAt.shaped (.list ds) = true ∧ Q (.int ((ds.countP fun z => PyData.eqv z d : Nat) : Int)) H) := by
  rintro pins s σ H x vs v us Q I rx rv ⟨M, ds, y, d, hx, rfl, hy, h1, h2, k⟩
  have hd := nd_lay _ (SeqAt.canLay_of_shaped h1)
  have hds := nd_lay _ (SeqAt.canLay_of_shaped h2)
  obtain ⟨a, ys, rfl, ha, ra⟩ := RpR.lst hx
  cases rx
  obtain ⟨u, rfl, ru⟩ := rv.one
  obtain ⟨its, rvi, hl, hz⟩ := I.list (SqL.of (K := X.K) ha)
  obtain ⟨as, hr⟩ := Dp.readsAll I ds _ _ (RpA.dp (by rw [nd] at hds; exact hds) ra) rvi
  obtain ⟨bs, hb⟩ := Dp.reads I d _ _ (Rp.dp hd hy) ru
  exact SeqAt.count_list_data hl.isList (by rw [List.toList_toArray]; exact hr) hb (PyData.plainAll_of_canLay0 _ (shaped_ds h2)) (PyData.plain_of_canLay0 _ (SeqAt.canLay_of_shaped h1)) (by
    have : d.depth ≤ 64 := SeqAt.depth_of_shaped h1
    have h3 := Nat.min_le_right (PyData.depthAll ds) d.depth
    omega) ⟨.int _, H, I.tok _, ⟨s.toks, rfl⟩, k⟩

/-! ### enumerate(tuple) -/
theorem meets_enumT (l : Addr) (items : Array Value) :
    Meets (Builtin.«enumerate.__new__» ⟨[.type "enumerate", .ref l], []⟩) (fun _ R s => s.heap.IsTuple l items ∧
      R (.ok (.ret (.ref (s.heap.push { cls := .type "tuple_iterator", data := .fields #[.ref l, .int 0 0] }).objs.size)))
        { s with heap := (s.heap.push { cls := .type "tuple_iterator", data := .fields #[.ref l, .int 0 0] }).push { cls := .type "enumerate", data := .fields #[.none, .bool false, .ref s.heap.objs.size, rawInt 0, .none, .none] } }) :=
  .of_wp fun prog w A R s h => by
    obtain ⟨hp, g, d, tk, os⟩ := s; obtain ⟨hl, h⟩ := h
    have hsub := sub_enumerate
    have hL : Heap.IsTuple (Shared.heap ⟨hp, g, d, tk, os⟩) l items := hl
    wp_walk
    refine wpAny_stack_any fun st => wpAny_pure ?_
    split
    · rename_i c _ _ _ _ _
      cases (c == Value.type "enumerate")
      · wp_walk using wpAny_pyIter_tuple hL
        exact ⟨_, rfl, h⟩
      · wp_walk using wpAny_pyIter_tuple hL
        exact ⟨_, rfl, h⟩
    · wp_walk using wpAny_pyIter_tuple hL
      exact ⟨_, rfl, h⟩
theorem call_enumT {P : Program} {w : World} {A : Around} {E : Value → Shared → Prop} {s : Shared} {l : Addr} {items : Array Value} {Q : Value → Shared → Prop} (hL : s.heap.IsTuple l items)
    (h : ∀ h', IsEnum h' (s.heap.objs.size + 1) s.heap.objs.size 0 .none → h'.IsTupleIter s.heap.objs.size l 0 → (∀ b o, s.heap.get? b = some o → h'.get? b = some o) → Q (.ref (s.heap.objs.size + 1)) { s with heap := h' }) :
    wpAny (model P w) A (call (.type "enumerate") [.ref l]) Q E s := by
  refine callType_new F.called_enumerate (by decide) (F.typeCall_enumerate_1 _) (F.newCall_enumerate_1 _) (fun obj => F.args_object_init_2 obj _) F.entry_enumerate_new (meets_enumT l items) ⟨hL, ?_⟩
  generalize hg : s.heap.push { cls := .type "tuple_iterator", data := .fields #[.ref l, .int 0 0] } = g
  have hz : g.objs.size = s.heap.objs.size + 1 := by rw [← hg]; exact Heap.size_push ..
  have hi : g.get? s.heap.objs.size = some { cls := .type "tuple_iterator", data := .fields #[.ref l, .int 0 0] } := by rw [← hg]; exact Heap.get?_push_size _ rfl
  have ho : ∀ b o, s.heap.get? b = some o → g.get? b = some o := fun b o e => by rw [← hg]; exact Heap.get?_push_of_some _ e
  have he := Heap.get?_push_size g (o := { cls := .type "enumerate", data := .fields #[.none, .bool false, .ref s.heap.objs.size, rawInt 0, .none, .none] }) rfl
  show _ ∧ _
  rw [hz] at he ⊢
  exact ⟨⟨_, he, rfl⟩, h _ he ⟨_, Heap.get?_push_of_some _ hi, rfl, rfl⟩ fun b o x => Heap.get?_push_of_some _ (ho b o x)⟩
def IteT (K : PySem.W.Frag) (a : Addr) : It :=
  ⟨fun i H => ∃ (xs : List V) (x : V), SqT K H a xs ∧ xs[i]? = some x, fun i H v H' => ∃ T x, v = .ref T ∧ H T = none ∧ H' = upd H T (.tup [.int (i : Nat), x]) ∧ ∀ xs, SqT K H a xs → xs[i]? = some x, fun i H => ∃ xs : List V, SqT K H a xs ∧ xs.length = i⟩
theorem turn_enumT {P : Program} {w : World} {K : PySem.W.Frag} {elts : List Expr} {kk : Nat} {tpos : Pos} (a e it : Addr) (hai : a ≠ it) (hae : a ≠ e) :
    Turn P w K (.Tuple elts kk tpos) (IteT K a) [e, it] e (fun i h => (∃ old, IsEnum h e it ((i : Nat) : Int) old) ∧ h.IsTupleIter it a i ∧ e ≠ it) where
  mem := List.mem_cons_self
  obj := fun i h st b hb => by
    obtain ⟨⟨old, he⟩, ⟨o, ho, hc, hd⟩, _⟩ := st
    rcases List.mem_cons.mp hb with z | hb
    · subst z; exact ⟨_, he, fun v q => nomatch q⟩
    · rcases List.mem_cons.mp hb with z | hb
      · subst z; exact ⟨o, ho, fun v q => by rw [hd] at q; cases q⟩
      · cases hb
  keep := fun i h h' st k => ⟨let ⟨old, he⟩ := st.1; ⟨old, k e List.mem_cons_self _ he⟩, st.2.1.at fun o q => k it (List.mem_cons_of_mem _ List.mem_cons_self) o q, st.2.2⟩
  item := by
    intro X hP hw hK hc i pins s σ H E I hf st hg
    subst hP hw hK
    obtain ⟨⟨old, he⟩, hit, hne⟩ := st
    obtain ⟨xs, x, hq, hx⟩ := hg
    obtain ⟨its, rv, p, hz⟩ := I.tuple hq
    obtain ⟨u, hu, ru⟩ := rv.get hx
    have hil : it < s.heap.objs.size := by obtain ⟨_, q, _⟩ := hit; exact Heap.lt_size q
    have hel : e < s.heap.objs.size := Heap.lt_size he
    have hlt : i < its.toArray.size := by
      rw [List.size_toArray]
      exact (List.getElem?_eq_some_iff.mp hu).1
    refine wpAny_pyNext_enum_itemD (Draws.tuple (A := X.A.in1) (I.ok.hd hc) it a hai its.toArray) he ⟨hit, p⟩ hlt hne (by
      intro z
      rcases List.mem_cons.mp z with z | z
      · exact hne z
      · rcases List.mem_cons.mp z with z | z
        · exact hae z.symm
        · cases z) fun y h' tk hy ho hst hT hsz hk => ?_
    have hyu : y = u := by
      have q : its.toArray[i]? = some u := by rw [List.getElem?_toArray]; exact hu
      exact Option.some.inj (hy.symm.trans q)
    subst hyu
    refine ⟨_, rfl, wpAny_letOwnedTupleGo_enum (s := { s with heap := h', toks := tk + 1 }) ho fun h'' he' sb => ?_⟩
    have hT2 : h''.get? s.heap.objs.size = some { cls := .type "tuple", data := .seq #[.int i tk, y] } := (sb.2 _ (Nat.ne_of_gt hel)).trans hT
    have new : ObjOk X.prog X.w (upd H s.heap.objs.size (.tup [.int (i : Nat), x])) h'' s.heap.objs.size (.tup [.int (i : Nat), x]) :=
      ⟨by show 2 ≤ sizeLine; decide, [.int i tk, y], .cons ⟨_, rfl⟩ (.cons ru .nil), ⟨_, hT2, rfl, _, rfl⟩⟩
    have I1 : Inv X pins σ (upd H s.heap.objs.size (.tup [.int (i : Nat), x])) { s with heap := h'', toks := tk + 1 } :=
      I.turnedNew (ch := [e, it]) (fun b ob hb q => (sb.2 b (fun z => hb (by rw [z]; exact List.mem_cons_self))).trans (hk b ob (fun z => hb (by rw [z]; exact List.mem_cons_self)) (fun z => hb (by rw [z]; exact List.mem_cons_of_mem _ List.mem_cons_self)) q)) hf (Nat.le_refl _) new
    refine ⟨.ref s.heap.objs.size, _, I1, rfl, ⟨_, x, rfl, I.hok.fresh (Nat.le_refl _), rfl, fun ys hy => by rw [I.tuple_inj hy hq]; exact hx⟩, ⟨⟨y, ?_⟩, hst.1.at fun o q => (sb.2 it (Ne.symm hne)).trans q, hne⟩, fun b hb => ?_⟩
    · have e1 : ((i + 1 : Nat) : Int) = (i : Int) + 1 := by omega
      rw [e1]; exact he'
    · have hb' : b < s.heap.objs.size := by
        rcases List.mem_cons.mp hb with z | hb
        · rw [z]; exact hel
        · rcases List.mem_cons.mp hb with z | hb
          · rw [z]; exact hil
          · cases hb
      rw [upd_ne (Nat.ne_of_lt hb')]
      exact (hf b hb).1
  done := by
    intro X hP hw hK hc i pins s σ H E I hf st hg
    subst hP hw hK
    obtain ⟨⟨old, he⟩, hit, hne⟩ := st
    obtain ⟨xs, hq, hx⟩ := hg
    obtain ⟨its, rv, p, hz⟩ := I.tuple hq
    obtain ⟨f0, f1, f2, f3, f4, f5⟩ := hf it (List.mem_cons_of_mem _ List.mem_cons_self)
    have hl : i = its.toArray.size := by rw [List.size_toArray, ← rv.length, hx]
    subst hl
    exact wpAny_pyNext_enum_endD (Draws.tuple (A := X.A.in1) (I.ok.hd hc) it a hai its.toArray) he ⟨hit, p⟩ fun h' eb => ⟨rfl, I.turned (t' := s.toks) (fun b o hb q => eb b o hb q) f0 f1 f3 f4 f5⟩
  self := fun A i s Q E st h => let ⟨⟨_, he⟩, _⟩ := st; wpAny_pyIter_enum he h
def iEnumT (K : PySem.W.Frag) (ta : TA) : TI := fun σ H R => ta σ H fun vs H1 => ∃ a xs, vs = [.ref a] ∧ SqT K H1 a xs ∧ R (IteT K a) H1
theorem pi_enumT {e : Expr} {ta : TA} {p pos tpos : Pos} {elts : List Expr} {kk : Nat} (hg : Gl X "enumerate") (hm : X.mg "enumerate" = none) (ha : PA X [e] ta) (hs : starEach [e] X.env = [(false, eval e X.env)]) :
    PI X (.Tuple elts kk tpos) (.Call (.Name "enumerate" p) [e] [] pos) (iEnumT X.K ta) := by
  refine ⟨fun pins s σ H R I h => ?_⟩
  refine Call_ (ld_blt I hg hm boot_enumerate (PyProof.Rows.callWith_type1 (thn (ha.run pos pins s σ H _ I h) fun us s1 z => ?_) hs rfl))
  obtain ⟨vs, H1, I1, r1, a, xs, rfl, hq, q⟩ := z
  rw [Vals.ref1 r1]
  obtain ⟨its, rv, p', hz⟩ := I1.tuple hq
  have hlt : a < s1.heap.objs.size := by obtain ⟨o, e, _⟩ := p'; exact Heap.lt_size e
  refine call_enumT p' fun h' he hit hk => wpAny_pyIter_enum he ?_
  have fr : ∀ b ∈ [s1.heap.objs.size + 1, s1.heap.objs.size], s1.heap.objs.size ≤ b := fun b hb => by
    rcases List.mem_cons.mp hb with z | hb
    · omega
    · rcases List.mem_cons.mp hb with z | hb
      · omega
      · cases hb
  exact ⟨s1.heap.objs.size + 1, [s1.heap.objs.size + 1, s1.heap.objs.size], _, _, H1, rfl, I1.kept (t' := s1.toks) hk, turn_enumT a (s1.heap.objs.size + 1) s1.heap.objs.size (Nat.ne_of_lt hlt) (Nat.ne_of_lt (Nat.lt_succ_of_lt hlt)), ⟨⟨.none, he⟩, hit, Nat.succ_ne_self _⟩, fun b hb => I1.fpOk (fr b hb) (I1.hok.fresh (fr b hb)), q⟩
/-! ### the built-ins whole -/
theorem cb_min (hc : X.calm = true) (hu : X.A.units + 80 < cLine) : CallR X (.builtin "min") (rBi X.K X.prog X.w .min) := by
  rintro pins s σ H vs us Q I rv ⟨M, ds, r, mh, hx, hf, k⟩
  have no : ¬ (Bi.min = Bi.list ∨ Bi.min = Bi.sorted) := by decide
  unfold pbi at hf
  split at hf <;> first | (rename_i h; cases h; done) | skip
  · rename_i i j _
    cases hf
    obtain ⟨v, u, rfl, hv, hu⟩ := two_of hx
    cases hv.int
    cases hu.int
    exact call_min2 hc pins s σ H _ us Q I rv ⟨i, j, rfl, k _ _ (Sm.refl _) (.int _) fun z => (no z).elim⟩
  · rename_i xs _
    split at hf
    · rename_i x r' e
      cases hf
      have e2 := intsOf_eq e
      subst e2
      obtain ⟨v, rfl, hv⟩ := one_of hx
      obtain ⟨a, ys, rfl, ha, ra⟩ := hv.lst
      have e3 := ra.ints
      subst e3
      refine cr_min hc pins s σ H _ us Q I rv ⟨a, x :: r', rfl, SqL.of ha, Nat.succ_pos _, fun m h1 h2 => ?_⟩
      have e4 : m = minOf x r' := by
        have a1 := h2 _ (minOf_mem x r')
        have a2 := minOf_le x r' m h1
        omega
      rw [e4]
      exact k _ _ (Sm.refl _) (.int _) fun z => (no z).elim
    · cases hf
  · rename_i xs _
    split at hf
    · rename_i x r' e
      cases hf
      have e2 := intsOf_eq e
      subst e2
      obtain ⟨v, rfl, hv⟩ := one_of hx
      obtain ⟨a, ys, rfl, ha, ra⟩ := hv.tup
      have e3 := ra.ints
      subst e3
      exact cr_minT hc hu pins s σ H _ us Q I rv ⟨a, x, r', rfl, SqT.of ha, k _ _ (Sm.refl _) (.int _) fun z => (no z).elim⟩
    · cases hf
  · cases hf
theorem cb_sorted (hc : X.calm = true) (hu : X.A.units + 80 < cLine) : CallR X (.builtin "sorted") (rBi X.K X.prog X.w .sorted) := by
  rintro pins s σ H vs us Q I rv ⟨M, ds, r, mh, hx, hf, k⟩
  unfold pbi at hf
  split at hf <;> first | (rename_i h; cases h; done) | skip
  · rename_i xs _
    split at hf
    · rename_i hs
      cases hf
      obtain ⟨h1, h2, h3, h4⟩ := sortOk_and hs
      obtain ⟨v, rfl, hv⟩ := one_of hx
      obtain ⟨a, ys, rfl, ha, ra⟩ := hv.lst
      obtain ⟨its, rvi, hl, hz⟩ := I.list (SqL.of (K := X.K) ha)
      rw [Vals.ref1 rv]
      have hlen : its.length = xs.length := by rw [← rvi.length, ra.length]
      have er : W.EachIs (fun (u : Value) (d : PyData) => ∃ as, Reads s.heap u (id d) as) its xs := by
        have ndx : ∀ d ∈ xs, nd d = true := fun d hd => nd_alike d (h1 d hd d hd)
        exact RpA.reads I ndx ra rvi
      refine W.sorted_data (R := fun u d => ∃ x, RelV x u ∧ Rp X.K X.prog X.w H M x d) (enc := id) (vs := its) (bs := xs) hl.isList (ra.each rvi) er (by rw [List.map_id]; exact h1) (by rw [List.map_id]; exact h2) (lim_size h4)
        (fun b hb => by have := h3 b hb; show X.A.units + 2 + b.depth < cLine; omega) fun out ho eo => ?_
      obtain ⟨zs, vo, ro⟩ := RpA.ofEach eo
      obtain ⟨ep, he⟩ := PyProof.Rows.sortedAll_at s.heap its out.toArray
      have hn : H (s.heap.objs.size + 1) = none := I.hok.fresh (Nat.le_succ _)
      have hzl : zs.length ≤ sizeLine := by
        rw [vo.length, ho]; exact lim_size h4
      refine ⟨.ref _, upd H (s.heap.objs.size + 1) (.lst zs), I.laid (t' := s.toks) (fun _ _ => PyProof.Rows.sortedAll_old) (Nat.le_succ _) ⟨hzl, out, ep, vo, he⟩, rfl, k _ _ (Sm.new hn) (ro.newLst mh hn) fun _ => ⟨_, zs, _, rfl, rfl, nn_of hn, upd_same, ro.grow (nn_of hn) (Sm.new hn)⟩⟩
    · cases hf
  · rename_i xs _
    split at hf
    · rename_i hs
      cases hf
      obtain ⟨v, rfl, hv⟩ := one_of hx
      obtain ⟨a, ys, rfl, ha, ra⟩ := hv.tup
      exact cr_sortedT hu pins s σ H _ us Q I rv ⟨M, a, ys, xs, rfl, mh, SqT.of ha, ra, hs, fun v H' s' r' n => k v H' s' r' fun _ => n⟩
    · cases hf
  · rename_i kvs _
    split at hf
    · rename_i hs
      cases hf
      obtain ⟨v, rfl, hv⟩ := one_of hx
      obtain ⟨a, es, rfl, ha, rt⟩ := RpR.dT hv
      exact cr_sortedD hc hu pins s σ H _ us Q I rv ⟨M, a, es, kvs, rfl, mh, ha, rt, hs, fun v H' s' r' n => k v H' s' r' fun _ => n⟩
    · cases hf
  · cases hf
theorem me_get (hu : X.A.units + 80 < cLine) : MtR X "dict.get" (rMe X.K X.prog X.w .get) := by
  rintro pins s σ H x vs v us Q I rx rv ⟨M, d, ds, r, mh, hx, hv, hf, k⟩
  unfold pmeth at hf
  split at hf <;> first | (rename_i h; cases h; done) | skip
  · rename_i kvs kd zd _
    split at hf
    · rename_i ok
      cases hf
      obtain ⟨y, z, rfl, h1, h2⟩ := hv.two
      exact me_getT hu pins s σ H x _ v us Q I rx rv ⟨M, kvs, kd, y, z, zd, hx, rfl, h1, ok, h2, fun v q => k v H (Sm.refl _) q⟩
    · cases hf
  · rename_i kvs kd zd _
    split at hf
    · rename_i ok
      cases hf
      obtain ⟨y, z, rfl, h1, h2⟩ := hv.two
      exact me_getK hu pins s σ H x _ v us Q I rx rv ⟨M, kvs, kd, y, z, zd, hx, rfl, h1, ok, h2, fun v q => k v H (Sm.refl _) q⟩
    · cases hf
  · cases hf
theorem countOf_eq (x : PyData) : ∀ ds : List PyData, countOf x ds = ds.countP fun z => PyData.eqv z x
  | [] => rfl
  | y :: r => by
    rw [countOf, countOf_eq x r, List.countP_cons]
    omega
theorem me_cnt (hu : X.A.units + 80 < cLine) : MtR X "list.count" (rMe X.K X.prog X.w .count) := by
  rintro pins s σ H x vs v us Q I rx rv ⟨M, d, ds, r, mh, hx, hv, hf, k⟩
  unfold pmeth at hf
  split at hf <;> first | (rename_i h; cases h; done) | skip
  · rename_i xs y _
    split at hf
    · rename_i hs
      rw [Bool.and_eq_true] at hs
      cases hf
      obtain ⟨z, rfl, hz⟩ := hv.one
      rw [countOf_eq] at k
      exact me_count hu pins s σ H x _ v us Q I rx rv ⟨M, xs, z, y, hx, rfl, hz, hs.1, hs.2, k _ H (Sm.refl _) (.int _)⟩
    · cases hf
  · cases hf
end
end Iv
end

section
/-! Iv5: the other expressions, lists of them, what is walked. -/
namespace Iv
open PySem L2 PyProof.Rows
variable [Tb]

/-- lists of expressions, parts of slices, tests of comprehensions, sources -/
structure SemS (G : GI) (F : Str → List PyData → R PyData) (k : Nat) (xc : Nat → Value) (N : List Str) (es : Es) : Prop where
  st : ∀ {sc : Scope} {fs : Str → Bool} {E : XK} {X : Cx} {l : List Expr}, Cxt G F k xc N sc fs E X → chkEs G N es sc l = true → PA X l (tEvs X.K X.prog X.w xc E (evs F es))
  rd : ∀ {sc : Scope} {fs : Str → Bool} {E : XK} {X : Cx} {l : List Expr}, Cxt G F k xc N sc fs E X → chkEs G N es sc l = true → PA X l (tEvr X.K X.prog X.w xc E (evr F es))
def SemO (G : GI) (F : Str → List PyData → R PyData) (k : Nat) (xc : Nat → Value) (N : List Str) (o : Oe) : Prop :=
  ∀ {sc : Scope} {fs : Str → Bool} {E : XK} {X : Cx} {l : Option Expr}, Cxt G F k xc N sc fs E X → chkO G N o sc l = true → PO X l (tEvo X.K X.prog X.w xc E (evo F o))
def SemC (G : GI) (F : Str → List PyData → R PyData) (k : Nat) (xc : Nat → Value) (N : List Str) (o : Oe) : Prop :=
  ∀ {sc : Scope} {fs : Str → Bool} {E : XK} {X : Cx} {l : List Expr}, Cxt G F k xc N sc fs E X → chkC G N o sc l = true → PTs X l (tEvB X.K X.prog X.w xc E (evc F o))
def SemR (G : GI) (F : Str → List PyData → R PyData) (k : Nat) (xc : Nat → Value) (N : List Str) (s : Src) : Prop :=
  ∀ {sc : Scope} {fs : Str → Bool} {E : XK} {X : Cx} {tg e : Expr}, Cxt G F k xc N sc fs E X → chkS G N s sc tg e = true → PI X tg e (tEvS X.K X.prog X.w xc E (esrc F s))

theorem stars_of {N : List Str} {G : GI} : ∀ {es : Es} {sc : Scope} {l : List Expr} {pos : Pos} {env : PySem.Env}, chkEs G N es sc l = true → (backTo pos (starEach l env)).any (·.1) = false
  | .nil, sc, l, pos, env, h => by
    unfold chkEs at h
    split at h
    · rfl
    · cases h
  | .cons a r, sc, l, pos, env, h => by
    unfold chkEs at h
    split at h
    · rename_i e l
      simp only [Bool.and_eq_true] at h
      rw [star_of h.1.1]
      show (false || (backTo pos (starEach l env)).any (·.1)) = false
      rw [stars_of h.2]; rfl
    · cases h

section
variable {G : GI} {F : Str → List PyData → R PyData} {k : Nat} {xc : Nat → Value} {N : List Str}

theorem sems_nil : SemS G F k xc N .nil where
  st := fun {sc fs E X l} c h => by
    unfold chkEs at h
    split at h
    · exact ⟨fun pos pins s σ H Q I ⟨Pn, M0, M, ρ, J, z⟩ => pa_nil.run pos pins s σ H Q I (z _ _ (Sm.refl _) .nil)⟩
    · cases h
  rd := fun {sc fs E X l} c h => by
    unfold chkEs at h
    split at h
    · exact ⟨fun pos pins s σ H Q I ⟨Pn, M0, M, ρ, J, z⟩ => pa_nil.run pos pins s σ H Q I (z _ _ (Sm.refl _) .nil)⟩
    · cases h
theorem sems_cons {a : Iv.E} {r : Es} (ha : Sem G F k xc N a) (hr : SemS G F k xc N r) : SemS G F k xc N (.cons a r) where
  st := fun {sc fs E X l} c h => by
    unfold chkEs at h
    split at h
    · simp only [Bool.and_eq_true] at h
      obtain ⟨⟨h1, h2⟩, h3⟩ := h
      refine ⟨fun pos pins s σ H Q I z => (pa_cons (ha.ss c h2) (hr.st c h3) (star_of h1)).run pos pins s σ H Q I ?_⟩
      obtain ⟨Pn, M0, M, ρ, J, z⟩ := z
      refine ⟨Pn, M0, M, ρ, J, RP.bind (show RP xc E H ((ev F false a ρ).bind fun x => (evs F r ρ).bind fun xs => .ok (x :: xs)) _ from z) |>.imp fun d _ h v H1 s1 p => ?_⟩
      refine ⟨Pn, M0, M, ρ, J.sm s1, (h.sm s1).bind.imp fun ds _ h2 vs H2 s2 q => h2 _ _ (s1.trans s2) (.cons (Rp.sm s2 p) q)⟩
    · cases h
  rd := fun {sc fs E X l} c h => by
    unfold chkEs at h
    split at h
    · simp only [Bool.and_eq_true] at h
      obtain ⟨⟨h1, h2⟩, h3⟩ := h
      refine ⟨fun pos pins s σ H Q I z => (pa_cons (ha.rd c h2) (hr.rd c h3) (star_of h1)).run pos pins s σ H Q I ?_⟩
      obtain ⟨Pn, M0, M, ρ, J, z⟩ := z
      refine ⟨Pn, M0, M, ρ, J, RP.bind (show RP xc E H ((ev F true a ρ).bind fun x => (evr F r ρ).bind fun xs => .ok (x :: xs)) _ from z) |>.imp fun d _ h v H1 s1 p => ?_⟩
      refine ⟨Pn, M0, M, ρ, J.sm s1, (h.sm s1).bind.imp fun ds _ h2 vs H2 s2 q => h2 _ _ (s1.trans s2) (.cons (RpR.sm s2 p) q)⟩
    · cases h
theorem semo_no : SemO G F k xc N .no := fun {sc fs E X l} c h => by
  unfold chkO at h
  split at h
  · exact ⟨fun pins s σ H Q I ⟨Pn, M0, M, ρ, J, z⟩ => po_none.run pins s σ H Q I (z _ (Sm.refl _))⟩
  · cases h
theorem semo_so {a : Iv.E} (ha : Sem G F k xc N a) : SemO G F k xc N (.so a) := fun {sc fs E X l} c h => by
  unfold chkO at h
  split at h
  · refine ⟨fun pins s σ H Q I z => (po_some (ha.rd c h)).run pins s σ H Q I ?_⟩
    obtain ⟨Pn, M0, M, ρ, J, z⟩ := z
    refine ⟨Pn, M0, M, ρ, J, RP.bind (show RP xc E H ((ev F true a ρ).bind _) _ from z) |>.imp fun d _ h v H1 s1 p => ?_⟩
    cases d with
    | int i =>
      rw [RpR.int p]
      exact ⟨i, rfl, h _ s1⟩
    | _ => exact (show False from h).elim
  · cases h
theorem semc_no : SemC G F k xc N .no := fun {sc fs E X l} c h => by
  unfold chkC at h
  split at h
  · exact ⟨fun pins s σ H Q I ⟨Pn, M0, M, ρ, J, z⟩ => pts_nil.run pins s σ H Q I (z _ (Sm.refl _))⟩
  · cases h
theorem semc_so {a : Iv.E} (ha : Sem G F k xc N a) : SemC G F k xc N (.so a) := fun {sc fs E X l} c h => by
  unfold chkC at h
  split at h
  · exact pts_one (ha.te c h)
  · cases h

/-! ### and, or, not -/
theorem pT {K : PySem.W.Frag} {P : Program} {w : World} {H : Hp} {M : Addr → Prop} {H' : Hp} {v : V} {b : Bool} (h : pS K P w H M H' v (.bool b)) : v = .bl b := by cases h; rfl
theorem sem_and {a b : Iv.E} (ha : Sem G F k xc N a) (hb : Sem G F k xc N b) : Sem G F k xc N (.and a b) := by
  have st : ∀ {sc : Scope} {fs : Str → Bool} {E : XK} {X : Cx} {e : Expr}, Cxt G F k xc N sc fs E X → chkE G N (.and a b) sc e = true → PE X e (tEv X.K X.prog X.w xc E (ev F false (.and a b)) (pS X.K X.prog X.w)) := by
    intro sc fs E X e c h
    unfold chkE at h
    split at h
    · rename_i x y rest pos
      simp only [Bool.and_eq_true] at h
      obtain ⟨h1, h2⟩ := h
      have hB : PE X (.BoolOp .And (y :: rest) pos) (tEv X.K X.prog X.w xc E (ev F false b) (pS X.K X.prog X.w)) := by
        cases rest with
        | nil => exact pe_one (hb.ss c h2)
        | cons z r => exact hb.ss c h2
      refine PE.mono (pe_and (ha.ss c h1) hB) ?_
      rintro σ H Q ⟨Pn, M0, M, ρ, I, h⟩
      refine ⟨Pn, M0, M, ρ, I, RP.bind (show RP xc E H ((ev F false a ρ).bind _) _ from h) |>.imp fun d _ h v H1 s1 p => ?_⟩
      cases d with
      | bool q =>
        refine ⟨q, pT p, ?_⟩
        cases q with
        | false => exact iteF (h _ _ s1 (.bl false))
        | true =>
          refine iteT ⟨Pn, M0, M, ρ, I.sm s1, RP.bind (RP.sm s1 (show RP xc E H ((ev F false b ρ).bind _) _ from h)) |>.imp fun d2 _ h2 v2 H2 s2 p2 => ?_⟩
          cases d2 with
          | bool q2 => exact h2 _ _ (s1.trans s2) p2
          | _ => exact (show False from h2).elim
      | _ => exact (show False from h).elim
    · cases h
  refine ⟨st, fun c h => pe_weak (st c h) fun _ _ _ _ _ _ p => .inl p, fun {sc fs E X e} c h => ?_⟩
  unfold chkB at h
  split at h
  · rename_i x y rest pos
    simp only [Bool.and_eq_true] at h
    obtain ⟨h1, h2⟩ := h
    have hB : PW X (.BoolOp .And (y :: rest) pos) (tEvB X.K X.prog X.w xc E fun ρ => (ev F false b ρ).bind asB) := by
      cases rest with
      | nil => exact pw_and1 (hb.te c h2)
      | cons z r =>
        have h3 := hb.te c h2
        exact ⟨fun whole pins s σ H Q I hh => h3.run pins s σ H Q I hh⟩
    refine PT.mono (pw_and (ha.te c h1) hB).pt ?_
    rintro σ H Q ⟨Pn, M0, M, ρ, I, h⟩
    refine ⟨Pn, M0, M, ρ, I, ?_⟩
    have h' : RP xc E H (((ev F false a ρ).bind fun x => (asB x).bind fun k => if k then (ev F false b ρ).bind fun y => (asB y).bind fun k2 => .ok (PyData.bool k2) else .ok (.bool false)).bind asB) (fun b => ∀ H', Sm H H' → Q b H') := h
    show RP xc E H ((ev F false a ρ).bind asB) _
    cases ea : ev F false a ρ with
    | exc q => rw [ea] at h'; exact h'
    | bad => rw [ea] at h'; exact h'
    | ok d =>
      rw [ea] at h'
      cases d with
      | bool q =>
        intro H1 s1
        cases q with
        | false => exact iteF (h' _ s1)
        | true =>
          refine iteT ⟨Pn, M0, M, ρ, I.sm s1, ?_⟩
          have h2 : RP xc E H (((ev F false b ρ).bind fun y => (asB y).bind fun k2 => .ok (PyData.bool k2)).bind asB) (fun b => ∀ H', Sm H H' → Q b H') := h'
          show RP xc E H1 ((ev F false b ρ).bind asB) _
          cases eb : ev F false b ρ with
          | exc q => rw [eb] at h2; exact RP.sm (r := (R.exc q : R Bool)) s1 h2
          | bad => rw [eb] at h2; exact h2
          | ok d2 =>
            rw [eb] at h2
            cases d2 with
            | bool q2 => exact fun H2 s2 => h2 _ (s1.trans s2)
            | _ => exact (show False from h2).elim
      | _ => exact (show False from h').elim
  · cases h
theorem sem_or {a b : Iv.E} (ha : Sem G F k xc N a) (hb : Sem G F k xc N b) : Sem G F k xc N (.or a b) := by
  have st : ∀ {sc : Scope} {fs : Str → Bool} {E : XK} {X : Cx} {e : Expr}, Cxt G F k xc N sc fs E X → chkE G N (.or a b) sc e = true → PE X e (tEv X.K X.prog X.w xc E (ev F false (.or a b)) (pS X.K X.prog X.w)) := by
    intro sc fs E X e c h
    unfold chkE at h
    split at h
    · rename_i x y rest pos
      simp only [Bool.and_eq_true] at h
      obtain ⟨h1, h2⟩ := h
      have hB : PE X (.BoolOp .Or (y :: rest) pos) (tEv X.K X.prog X.w xc E (ev F false b) (pS X.K X.prog X.w)) := by
        cases rest with
        | nil => exact pe_one (hb.ss c h2)
        | cons z r => exact hb.ss c h2
      refine PE.mono (pe_or (ha.ss c h1) hB) ?_
      rintro σ H Q ⟨Pn, M0, M, ρ, I, h⟩
      refine ⟨Pn, M0, M, ρ, I, RP.bind (show RP xc E H ((ev F false a ρ).bind _) _ from h) |>.imp fun d _ h v H1 s1 p => ?_⟩
      cases d with
      | bool q =>
        refine ⟨q, pT p, ?_⟩
        cases q with
        | true => exact iteT (h _ _ s1 (.bl true))
        | false =>
          refine iteF ⟨Pn, M0, M, ρ, I.sm s1, RP.bind (RP.sm s1 (show RP xc E H ((ev F false b ρ).bind _) _ from h)) |>.imp fun d2 _ h2 v2 H2 s2 p2 => ?_⟩
          cases d2 with
          | bool q2 => exact h2 _ _ (s1.trans s2) p2
          | _ => exact (show False from h2).elim
      | _ => exact (show False from h).elim
    · cases h
  refine ⟨st, fun c h => pe_weak (st c h) fun _ _ _ _ _ _ p => .inl p, fun {sc fs E X e} c h => ?_⟩
  unfold chkB at h
  split at h
  · rename_i x y rest pos
    simp only [Bool.and_eq_true] at h
    obtain ⟨h1, h2⟩ := h
    have hB : PW X (.BoolOp .Or (y :: rest) pos) (tEvB X.K X.prog X.w xc E fun ρ => (ev F false b ρ).bind asB) := by
      cases rest with
      | nil => exact pw_or1 (hb.te c h2)
      | cons z r =>
        have h3 := hb.te c h2
        exact ⟨fun whole pins s σ H Q I hh => h3.run pins s σ H Q I hh⟩
    refine PT.mono (pw_or (ha.te c h1) hB).pt ?_
    rintro σ H Q ⟨Pn, M0, M, ρ, I, h⟩
    refine ⟨Pn, M0, M, ρ, I, ?_⟩
    have h' : RP xc E H (((ev F false a ρ).bind fun x => (asB x).bind fun k => if k then .ok (.bool true) else (ev F false b ρ).bind fun y => (asB y).bind fun k2 => .ok (PyData.bool k2)).bind asB) (fun b => ∀ H', Sm H H' → Q b H') := h
    show RP xc E H ((ev F false a ρ).bind asB) _
    cases ea : ev F false a ρ with
    | exc q => rw [ea] at h'; exact h'
    | bad => rw [ea] at h'; exact h'
    | ok d =>
      rw [ea] at h'
      cases d with
      | bool q =>
        intro H1 s1
        cases q with
        | true => exact iteT (h' _ s1)
        | false =>
          refine iteF ⟨Pn, M0, M, ρ, I.sm s1, ?_⟩
          have h2 : RP xc E H (((ev F false b ρ).bind fun y => (asB y).bind fun k2 => .ok (PyData.bool k2)).bind asB) (fun b => ∀ H', Sm H H' → Q b H') := h'
          show RP xc E H1 ((ev F false b ρ).bind asB) _
          cases eb : ev F false b ρ with
          | exc q => rw [eb] at h2; exact RP.sm (r := (R.exc q : R Bool)) s1 h2
          | bad => rw [eb] at h2; exact h2
          | ok d2 =>
            rw [eb] at h2
            cases d2 with
            | bool q2 => exact fun H2 s2 => h2 _ (s1.trans s2)
            | _ => exact (show False from h2).elim
      | _ => exact (show False from h').elim
  · cases h
theorem sem_not {a : Iv.E} (ha : Sem G F k xc N a) : Sem G F k xc N (.not a) := by
  have st : ∀ {sc : Scope} {fs : Str → Bool} {E : XK} {X : Cx} {e : Expr}, Cxt G F k xc N sc fs E X → chkE G N (.not a) sc e = true → PE X e (tEv X.K X.prog X.w xc E (ev F false (.not a)) (pS X.K X.prog X.w)) := by
    intro sc fs E X e c h
    unfold chkE at h
    split at h
    · refine PE.mono (pe_not (ha.ss c h)) ?_
      rintro σ H Q ⟨Pn, M0, M, ρ, I, h⟩
      refine ⟨Pn, M0, M, ρ, I, RP.bind (show RP xc E H ((ev F false a ρ).bind _) _ from h) |>.imp fun d _ h v H1 s1 p => ?_⟩
      cases d with
      | bool q => exact ⟨q, pT p, h _ _ s1 (.bl _)⟩
      | _ => exact (show False from h).elim
    · cases h
  refine ⟨st, fun c h => pe_weak (st c h) fun _ _ _ _ _ _ p => .inl p, fun {sc fs E X e} c h => ?_⟩
  unfold chkB at h
  split at h
  · refine PT.mono (pt_not (ha.te c h)) ?_
    rintro σ H Q ⟨Pn, M0, M, ρ, I, h⟩
    refine ⟨Pn, M0, M, ρ, I, ?_⟩
    have h' : RP xc E H (((ev F false a ρ).bind fun x => (asB x).bind fun k => .ok (PyData.bool (!k))).bind asB) (fun b => ∀ H', Sm H H' → Q b H') := h
    show RP xc E H ((ev F false a ρ).bind asB) _
    cases ea : ev F false a ρ with
    | exc q => rw [ea] at h'; exact h'
    | bad => rw [ea] at h'; exact h'
    | ok d =>
      rw [ea] at h'
      cases d with
      | bool q => exact fun H1 s1 => h' _ s1
      | _ => exact (show False from h').elim
  · cases h

/-! ### subscripts, slices, displays -/
theorem pix_no : ∀ (x y : PyData) (c : Nat), pix x y ≠ .exc c := by
  intro x y c h
  unfold pix at h
  split at h <;> first
    | (cases h; done)
    | (split at h <;> first | (cases h; done) | (split at h <;> cases h))
theorem sem_ix {a b : Iv.E} (ha : Sem G F k xc N a) (hb : Sem G F k xc N b) : Sem G F k xc N (.ix a b) := by
  refine Sem.mk1 (fun _ => rfl) (fun {sc fs E X e} c h => ?_) fun _ _ h => by simp [chkB] at h
  unfold chkE at h
  split at h
  · simp only [Bool.and_eq_true] at h
    obtain ⟨⟨h0, h1⟩, h2⟩ := h
    have hu := c.hu
    refine PE.mono (pe_ix (ixr_pix (by omega)) (ha.rd c h1) (hb.rd c h2) (slice_of h0)) fun σ H Q z => ev2 (ff := pix) ?_ pix_no
    exact z
  · cases h
theorem sem_sl {a : Iv.E} {lo hi : Oe} (ha : Sem G F k xc N a) (hl : SemO G F k xc N lo) (hh : SemO G F k xc N hi) : Sem G F k xc N (.sl a lo hi) := by
  refine Sem.mk1 (fun _ => rfl) (fun {sc fs E X e} c h => ?_) fun _ _ h => by simp [chkB] at h
  unfold chkE at h
  split at h
  · simp only [Bool.and_eq_true] at h
    obtain ⟨⟨h0, h1⟩, h2⟩ := h
    refine PE.mono (pe_slice slr (ha.rd c h0) (hl c h1) (hh c h2)) ?_
    rintro σ H Q ⟨Pn, M0, M, ρ, I, h⟩
    refine ⟨Pn, M0, M, ρ, I, RP.bind (show RP xc E H ((ev F true a ρ).bind _) _ from h) |>.imp fun d _ h v H1 s1 p => ?_⟩
    refine ⟨Pn, M0, M, ρ, I.sm s1, (h.sm s1).bind.imp fun l _ h2 H2 s2 => ⟨Pn, M0, M, ρ, (I.sm s1).sm s2, (h2.sm s2).bind.imp fun u _ h3 H3 s3 => ?_⟩⟩
    cases r : psl d l u with
    | ok z =>
      rw [r] at h3
      exact ⟨M, d, z, ((Mh.sm I.mh s1).sm s2).sm s3, (RpR.sm s2 p).sm s3, r, fun v' H' s4 o _ => h3 v' H' (((s1.trans s2).trans s3).trans s4) o⟩
    | exc q => exfalso; unfold psl at r; split at r <;> cases r
    | bad => rw [r] at h3; exact h3.elim
  · cases h
theorem len1000 {xs : List V} {l : List Expr} {n : Nat} (h : xs.length = n) (q : n ≤ 1000) : xs.length ≤ sizeLine := by
  rw [h]; exact Nat.le_trans q (by decide)
theorem evs_len {F : Str → List PyData → R PyData} {G : GI} {N : List Str} : ∀ {es : Es} {ρ : Env} {ds : List PyData} {sc : Scope} {l : List Expr}, evs F es ρ = .ok ds → chkEs G N es sc l = true → ds.length = l.length
  | .nil, ρ, ds, sc, l, h, q => by
    unfold chkEs at q
    split at q
    · cases h; rfl
    · cases q
  | .cons a r, ρ, ds, sc, l, h, q => by
    unfold chkEs at q
    split at q
    · simp only [Bool.and_eq_true] at q
      unfold evs at h
      cases ea : ev F false a ρ with
      | ok x =>
        rw [ea] at h
        cases er : evs F r ρ with
        | ok xs =>
          rw [er] at h
          cases h
          rw [List.length_cons, List.length_cons, evs_len er q.2]
        | exc c => rw [er] at h; cases h
        | bad => rw [er] at h; cases h
      | exc c => rw [ea] at h; cases h
      | bad => rw [ea] at h; cases h
    · cases q
theorem sem_tup {es : Es} (hs : SemS G F k xc N es) : Sem G F k xc N (.tup es) := by
  refine Sem.mk1 (fun _ => rfl) (fun {sc fs E X e} c h => ?_) fun _ _ h => by simp [chkB] at h
  unfold chkE at h
  split at h
  · rename_i xs _ _
    simp only [Bool.and_eq_true, decide_eq_true_eq] at h
    obtain ⟨h0, h1⟩ := h
    refine PE.mono (pe_tup (hs.st c h0)) ?_
    rintro σ H Q ⟨Pn, M0, M, ρ, I, h⟩
    refine ⟨Pn, M0, M, ρ, I, RP.bind (show RP xc E H ((evs F es ρ).bind _) _ from h) |>.imp fun ds e h vs H1 s1 p => ?_⟩
    refine ⟨len1000 (l := xs) (p.length.trans (evs_len e h0)) h1, fun q hq => h _ _ (s1.trans (Sm.new hq)) (p.newTup hq)⟩
  · cases h
theorem sem_lst {es : Es} (hs : SemS G F k xc N es) : Sem G F k xc N (.lst es) := by
  refine Sem.mk1 (fun _ => rfl) (fun {sc fs E X e} c h => ?_) fun _ _ h => by simp [chkB] at h
  unfold chkE at h
  split at h
  · rename_i xs _
    simp only [Bool.and_eq_true, decide_eq_true_eq] at h
    obtain ⟨h0, h1⟩ := h
    refine PE.mono (pe_lst (hs.st c h0)) ?_
    rintro σ H Q ⟨Pn, M0, M, ρ, I, h⟩
    refine ⟨Pn, M0, M, ρ, I, RP.bind (show RP xc E H ((evs F es ρ).bind _) _ from h) |>.imp fun ds e h vs H1 s1 p => ?_⟩
    refine ⟨len1000 (l := xs) (p.length.trans (evs_len e h0)) h1, fun q hq => h _ _ (s1.trans (Sm.new hq)) ⟨q, rfl, ?_, .inl ⟨vs, ds, rfl, upd_same, ?_⟩⟩⟩
    · exact s1.nn (nn_of hq)
    · exact p.to (fun b o e n _ => (Sm.new hq).st b o e n) fun a z => z.elim .inl fun z => .inr (by rw [z]; exact nn_of hq)
  · cases h

/-! ### calls -/
theorem sem_call {x : Str} {es : Es} (hs : SemS G F k xc N es) : Sem G F k xc N (.call x es) := by
  refine Sem.mk1 (fun _ => rfl) (fun {sc fs E X e} c h => ?_) fun sc e h => ?_
  · unfold chkE at h
    split at h
    · rename_i a r _
      simp only [Bool.and_eq_true, decide_eq_true_eq] at h
      obtain ⟨⟨⟨⟨e0, h1⟩, h2⟩, h3⟩, h4⟩ := h
      subst e0
      obtain ⟨f, fd, ps, q1, q2, q3, q5, q4⟩ := c.fns _ h1
      obtain ⟨n1, _, _⟩ := okN_of h3
      have hst : starEach (a :: r) X.env = (false, eval a X.env) :: starEach r X.env ∧ ∀ pos, (backTo pos (starEach r X.env)).any (·.1) = false := by
        cases es with
        | nil => unfold chkEs at h4; cases h4
        | cons e1 es1 =>
          unfold chkEs at h4
          simp only [Bool.and_eq_true] at h4
          exact ⟨star_of h4.1.1, fun pos => stars_of h4.2⟩
      refine PE.mono (pe_call (dvs := []) q4 c.room0 (c.gl h2) q1 q2 q3 .nil c.pass (hs.st c h4) n1 hst.1 (hst.2 _)) ?_
      rintro σ H Q ⟨Pn, M0, M, ρ, I, h⟩
      refine ⟨Pn, M0, M, ρ, I, RP.bind (show RP xc E H ((evs F es ρ).bind _) _ from h) |>.imp fun ds _ h vs H1 s1 p => ?_⟩
      show spOf X.K X.prog X.w xc ps.length (F _) (vs ++ []) H1 Q E
      rw [List.append_nil]
      refine ⟨?_, M, ds, Mh.sm I.mh s1, s1.tb I.tb, p, (h.sm s1).imp fun d _ h2 v H2 s2 q => h2 v H2 (s1.trans s2) q⟩
      rw [p.length]
      exact q5 ds fun z => by rw [z] at h; exact h
    · cases h
  · unfold chkB at h
    split at h
    · exact ⟨rfl, by unfold chkE; exact h⟩
    · cases h

/-! ### built-ins -/
theorem evr_call {K : PySem.W.Frag} {P : Program} {w : World} {E : XK} {b : Bi} {es : Es} {σ : L2.St} {H : Hp} {Q : VK} (h : tEv K P w xc E (ev F false (.bi b es)) (pst K P w (.bi b es)) σ H Q) :
    tCB (rBi K P w b) (tEvr K P w xc E (evr F es)) σ H Q := by
  obtain ⟨Pn, M0, M, ρ, I, h⟩ := h
  refine ⟨Pn, M0, M, ρ, I, RP.bind (show RP xc E H ((evr F es ρ).bind _) _ from h) |>.imp fun ds _ h vs H1 s1 p => ?_⟩
  cases r : pbi b ds with
  | ok z =>
    rw [r] at h
    refine ⟨M, ds, z, Mh.sm I.mh s1, p, r, fun v H' s2 o n => h v H' (s1.trans s2) ?_⟩
    by_cases hb : b = .list ∨ b = .sorted
    · obtain ⟨q, xs, ds', e1, e2, e3, e4, e5⟩ := n hb
      have hq : nn H q := s1.nn e3
      have hf : fr (.bi b es) = true := by rcases hb with rfl | rfl <;> rfl
      unfold pst
      rw [if_pos hf]
      subst e1
      exact ⟨q, e2, hq, .inl ⟨xs, ds', rfl, e4, e5⟩⟩
    · cases b <;> first
        | exact o
        | exact absurd (Or.inl rfl) hb
        | exact absurd (Or.inr rfl) hb
  | exc c => exact (pbi_no _ _ _ r).elim
  | bad => rw [r] at h; exact h.elim
theorem rest_of {es : Es} {sc : Scope} {a : Expr} {r : List Expr} {env : PySem.Env} (h : chkEs G N es sc (a :: r) = true) : starEach (a :: r) env = (false, eval a env) :: starEach r env ∧ ∀ pos, (backTo pos (starEach r env)).any (·.1) = false := by
  cases es with
  | nil => unfold chkEs at h; cases h
  | cons e1 es1 =>
    unfold chkEs at h
    simp only [Bool.and_eq_true] at h
    exact ⟨star_of h.1.1, fun pos => stars_of h.2⟩
theorem sem_bi {b : Bi} {es : Es} (hs : SemS G F k xc N es) : Sem G F k xc N (.bi b es) := by
  refine Sem.mk1 (fun _ => rfl) (fun {sc fs E X e} c h => ?_) fun sc e h => ?_
  · unfold chkE at h
    split at h
    · rename_i y _ a r _
      simp only [Bool.and_eq_true, decide_eq_true_eq] at h
      obtain ⟨⟨e0, h1⟩, h2⟩ := h
      obtain ⟨g1, g2, g3, g4⟩ := c.blt' h1
      obtain ⟨s1, s2⟩ := rest_of (env := X.env) h2
      have hu := c.hu
      have hP := hs.rd c h2
      refine PE.mono ?_ fun σ H Q z => evr_call z
      subst e0
      cases b
      · exact pe_callB cb_len g1 g2 (by decide +kernel) hP g3 g4 s1 (s2 _)
      · exact pe_callB cb_abs g1 g2 (by decide +kernel) hP g3 g4 s1 (s2 _)
      · exact pe_callB (cb_min c.calm (by omega)) g1 g2 (by decide +kernel) hP g3 g4 s1 (s2 _)
      · exact pe_callB (cb_max c.calm) g1 g2 (by decide +kernel) hP g3 g4 s1 (s2 _)
      · exact pe_callB (cb_sum c.calm) g1 g2 (by decide +kernel) hP g3 g4 s1 (s2 _)
      · exact pe_callB (cb_all c.calm) g1 g2 (by decide +kernel) hP g3 g4 s1 (s2 _)
      · exact pe_callB (cb_any c.calm) g1 g2 (by decide +kernel) hP g3 g4 s1 (s2 _)
      · exact pe_callB (cb_sorted c.calm (by omega)) g1 g2 (by decide +kernel) hP g3 g4 s1 (s2 _)
      · exact pe_callTy cb_tuple g1 g2 (by decide +kernel) hP g3 g4 s1 (s2 _)
      · exact pe_callTy cb_list g1 g2 (by decide +kernel) hP g3 g4 s1 (s2 _)
      · exact pe_callTy cb_int g1 g2 (by decide +kernel) hP g3 g4 s1 (s2 _)
      · exact pe_callTy cb_str g1 g2 (by decide +kernel) hP g3 g4 s1 (s2 _)
      · exact pe_callTy (cb_dict c.calm (by omega)) g1 g2 (by decide +kernel) hP g3 g4 s1 (s2 _)
    · cases h
  · unfold chkB at h
    split at h
    · exact ⟨rfl, by unfold chkE; exact h⟩
    · cases h
theorem sem_isi {a : Iv.E} {t : Ty} (ha : Sem G F k xc N a) : Sem G F k xc N (.isi a t) := by
  refine Sem.mk1 (fun _ => rfl) (fun {sc fs E X e} c h => ?_) fun sc e h => ?_
  · unfold chkE at h
    split at h
    · simp only [Bool.and_eq_true, decide_eq_true_eq] at h
      obtain ⟨⟨⟨⟨⟨e0, h1⟩, e1⟩, h2⟩, h3⟩, h4⟩ := h
      obtain ⟨g1, g2, g3, g4⟩ := c.blt' h1
      obtain ⟨k1, k2, k3, k4⟩ := c.blt' h2
      subst e0 e1
      have hT : ∀ pz, PE X (.Name (tyName t) pz) (tC (.ty (tyN t))) := fun pz => pe_bltn k1 k2 (v := .ty (tyN t)) (u := .type (tyN t)) (by cases t <;> decide +kernel) rfl k3 k4
      refine PE.mono (pe_callB (cb_isi (t := t)) g1 g2 (by decide +kernel) (pa_cons (ha.rd c h4) (pa_cons (hT _) pa_nil) (star_of h3)) g3 g4 (star_of h3) rfl) ?_
      rintro σ H Q ⟨Pn, M0, M, ρ, I, h⟩
      refine ⟨Pn, M0, M, ρ, I, RP.bind (show RP xc E H ((ev F true a ρ).bind _) _ from h) |>.imp fun d _ h v H1 s1 p => ?_⟩
      cases r : pisi d t with
      | ok z =>
        rw [r] at h
        exact ⟨M, v, d, z, rfl, Mh.sm I.mh s1, p, r, h _ _ s1 (.bl _)⟩
      | exc q => exfalso; unfold pisi at r; split at r <;> cases r
      | bad => rw [r] at h; exact h.elim
    · cases h
  · unfold chkB at h
    split at h
    · exact ⟨rfl, by unfold chkE; exact h⟩
    · cases h

/-! ### targets -/
def gEv (K : PySem.W.Frag) (P : Program) (w : World) (vs : Option (List Nat)) (t : T) : TG := fun v σ H Q => ∃ Pn M0 M ρ d ρ', SIv K P w Pn M0 M σ H ρ ∧ Rp K P w H M v d ∧ bindT t d ρ = some ρ' ∧
  ∀ σ', SIv K P w Pn M0 M σ' H ρ' → (∀ l, vs = some l → L2.wipe σ' l = L2.wipe σ l) → Q σ' H
def gEvs (K : PySem.W.Frag) (P : Program) (w : World) (vs : Option (List Nat)) (ts : Ts) : TGs := fun us σ H Q => ∃ Pn M0 M ρ ds ρ', SIv K P w Pn M0 M σ H ρ ∧ RpA K P w H M us ds ∧ bindTs ts ds ρ = some ρ' ∧
  ∀ σ', SIv K P w Pn M0 M σ' H ρ' → (∀ l, vs = some l → L2.wipe σ' l = L2.wipe σ l) → Q σ' H
theorem wipe_set {σ : L2.St} {i : Nat} {v : Option V} : ∀ {l : List Nat}, i ∈ l → L2.wipe (σ.set i v) l = L2.wipe σ l
  | j :: l, h => by
    show (L2.wipe (σ.set i v) l).set j none = (L2.wipe σ l).set j none
    by_cases hl : i ∈ l
    · rw [wipe_set hl]
    · have e : i = j := by
        rcases List.mem_cons.mp h with e | e
        · exact e
        · exact (hl e).elim
      subst e
      have go : ∀ (l : List Nat), i ∉ l → L2.wipe (σ.set i v) l = (L2.wipe σ l).set i v := by
        intro l
        induction l with
        | nil => intro _; rfl
        | cons m r ih =>
          intro hn
          show (L2.wipe (σ.set i v) r).set m none = ((L2.wipe σ r).set m none).set i v
          rw [ih fun z => hn (List.mem_cons_of_mem _ z)]
          exact (List.set_comm _ _ (fun z => hn (by rw [z]; exact List.mem_cons_self)))
      rw [go l hl, List.set_set]
theorem PG.mono {X : Cx} {e : Expr} {g g' : TG} (h : PG X e g) (q : ∀ v σ H Q, g' v σ H Q → g v σ H Q) : PG X e g' := ⟨fun pins s σ H v u Q I r z => h.run pins s σ H v u Q I r (q v σ H Q z)⟩
theorem PGs.mono {X : Cx} {e : List Expr} {g g' : TGs} (h : PGs X e g) (q : ∀ v σ H Q, g' v σ H Q → g v σ H Q) : PGs X e g' := ⟨fun pins s σ H v u Q I r z => h.run pins s σ H v u Q I r (q v σ H Q z)⟩
theorem each_of {e : Expr} {es : List Expr} {env : PySem.Env} (h : notStar e = true) : assignEach (e :: es) env = (false, assign e env) :: assignEach es env := by
  cases e <;> first | rfl | cases h
theorem bindTs_len : ∀ {ts : Ts} {ds : List PyData} {ρ ρ' : Env} {sc : Scope} {fs : Str → Bool} {vs : Option (List Nat)} {es : List Expr}, bindTs ts ds ρ = some ρ' → chkTs N sc fs vs ts es = true → ds.length = es.length
  | .nil, ds, ρ, ρ', sc, fs, vs, es, h, q => by
    unfold chkTs at q
    split at q
    · cases ds with
      | nil => rfl
      | cons _ _ => unfold bindTs at h; cases h
    · cases q
  | .cons t ts, ds, ρ, ρ', sc, fs, vs, es, h, q => by
    unfold chkTs at q
    split at q
    · simp only [Bool.and_eq_true] at q
      cases ds with
      | nil => unfold bindTs at h; cases h
      | cons d ds =>
        unfold bindTs at h
        cases e : bindT t d ρ with
        | none => rw [e] at h; cases h
        | some ρ1 =>
          rw [e] at h
          rw [List.length_cons, List.length_cons, bindTs_len h q.2]
    · cases q
theorem starT_of {sc : Scope} {fs : Str → Bool} {vs : Option (List Nat)} {env : PySem.Env} : ∀ {ts : Ts} {es : List Expr}, chkTs N sc fs vs ts es = true → (assignEach es env).length = es.length ∧ (assignEach es env).findIdx? (·.1) = none
  | .nil, es, q => by
    unfold chkTs at q
    split at q
    · exact ⟨rfl, rfl⟩
    · cases q
  | .cons t ts, es, q => by
    unfold chkTs at q
    split at q
    · rename_i e r
      simp only [Bool.and_eq_true] at q
      obtain ⟨a, b⟩ := starT_of (env := env) q.2
      rw [each_of q.1.1]
      refine ⟨by rw [List.length_cons, List.length_cons, a], ?_⟩
      rw [List.findIdx?_cons, b]; rfl
    · cases q
mutual
theorem pg_t {sc : Scope} {fs : Str → Bool} {E : XK} {X : Cx} {vs : Option (List Nat)} (c : Cxt G F k xc N sc fs E X) : ∀ {t : T} {e : Expr}, chkT N sc fs vs t e = true → PG X e (gEv X.K X.prog X.w vs t)
  | .nm i, e, h => by
    unfold chkT at h
    split at h
    · rename_i x _
      simp only [Bool.and_eq_true, Bool.or_eq_true, decide_eq_true_eq] at h
      obtain ⟨⟨⟨h1, h2⟩, h3⟩, h4⟩ := h
      refine PG.mono (pg_name (i := i) (by rw [c.names]; exact c.nd) (by rw [c.names]; exact h1) (by rw [c.scope]; exact isLoc_of h2) (by
        rcases h3 with h3 | h3
        · exact .inl (c.fnb _ h3)
        · exact .inr (by rw [c.scope]; exact h3))) ?_
      rintro v σ H Q ⟨Pn, M0, M, ρ, d, ρ', I, hv, hb, q⟩
      unfold bindT at hb
      cases hb
      refine q _ (I.set hv) fun l hl => ?_
      subst hl
      exact wipe_set (of_decide_eq_true h4)
    · cases h
  | .tup ts, e, h => by
    unfold chkT at h
    split at h
    · rename_i es _ _
      obtain ⟨a, b⟩ := starT_of (env := X.env) h
      refine PG.mono (pg_tup (n := es.length) c.calm (pgs_t c h) a b) ?_
      rintro v σ H Q ⟨Pn, M0, M, ρ, d, ρ', I, hv, hb, q⟩
      cases d with
      | tuple ds =>
        unfold bindT at hb
        cases hv with
        | tup ha ra =>
          exact ⟨_, _, rfl, SqT.of ha, ra.length.trans (bindTs_len hb h), Pn, M0, M, ρ, ds, ρ', I, ra, hb, q⟩
      | _ => unfold bindT at hb; cases hb
    · cases h
theorem pgs_t {sc : Scope} {fs : Str → Bool} {E : XK} {X : Cx} {vs : Option (List Nat)} (c : Cxt G F k xc N sc fs E X) : ∀ {ts : Ts} {es : List Expr}, chkTs N sc fs vs ts es = true → PGs X es (gEvs X.K X.prog X.w vs ts)
  | .nil, es, h => by
    unfold chkTs at h
    split at h
    · refine PGs.mono pgs_nil ?_
      rintro us σ H Q ⟨Pn, M0, M, ρ, ds, ρ', I, hv, hb, q⟩
      cases ds with
      | nil =>
        cases hv
        unfold bindTs at hb
        cases hb
        exact ⟨rfl, q _ I fun _ _ => rfl⟩
      | cons _ _ => unfold bindTs at hb; cases hb
    · cases h
  | .cons t ts, es, h => by
    unfold chkTs at h
    split at h
    · rename_i e r
      simp only [Bool.and_eq_true] at h
      obtain ⟨⟨h0, h1⟩, h2⟩ := h
      refine PGs.mono (pgs_cons (pg_t c h1) (pgs_t c h2) (by rw [each_of h0]; rfl)) ?_
      rintro us σ H Q ⟨Pn, M0, M, ρ, ds, ρ', I, hv, hb, q⟩
      cases ds with
      | nil => unfold bindTs at hb; cases hb
      | cons d ds =>
        unfold bindTs at hb
        cases e1 : bindT t d ρ with
        | none => rw [e1] at hb; cases hb
        | some ρ1 =>
          rw [e1] at hb
          cases hv with
          | cons hv hr =>
            refine ⟨_, _, rfl, Pn, M0, M, ρ, d, ρ1, I, hv, e1, fun σ1 I1 w1 => ⟨Pn, M0, M, ρ1, ds, ρ', I1, hr, hb, fun σ2 I2 w2 => q σ2 I2 fun l hl => (w2 l hl).trans (w1 l hl)⟩⟩
    · cases h
end
end
end Iv
end

section
/-! Iv6: what is walked, comprehensions, ranges as values, methods; all expressions. -/
namespace Iv
open PySem L2 PyProof.Rows RZ
variable [Tb]

theorem PI.mono {X : Cx} {tg e : Expr} {t t' : TI} (h : PI X tg e t) (q : ∀ σ H R, t' σ H R → t σ H R) : PI X tg e t' := ⟨fun pins s σ H R I z => h.run pins s σ H R I (q σ H R z)⟩
theorem PI_or {X : Cx} {tg e : Expr} {t t' : TI} (h : PI X tg e t) (h' : PI X tg e t') : PI X tg e (fun σ H R => t σ H R ∨ t' σ H R) := ⟨fun pins s σ H R I z => by
  rcases z with z | z
  · exact h.run pins s σ H R I z
  · exact h'.run pins s σ H R I z⟩

/-! ### iterators -/
section
variable {K : PySem.W.Frag} {P : Program} {w : World} {H : Hp} {M : Addr → Prop}
theorem keep_fix {H2 : Hp} (mh : Mh H M) (keep : ∀ b o, H b = some o → nt o → ¬ M b → H2 b = some o) : ∀ b o, H b = some o → nt o → (¬ M b ∨ isFix o) → H2 b = some o := fun b o e n z => by
  rcases z with z | z
  · exact keep b o e n z
  · refine keep b o e n fun hb => ?_
    obtain ⟨o', q, m⟩ := mh b hb
    rw [e] at q
    cases q
    cases o <;> first | exact z.elim | exact m.elim
theorem it_list {a : Addr} {xs : List V} {ds : List PyData} (mh : Mh H M) (ha : H a = some (.lst xs)) (n : ¬ M a) (r : RpA K P w H M xs ds) : ItOk K P w (Itl K a) H M ds := by
  intro H2 keep i
  have h2 : SqL K H2 a xs := SqL.of (keep _ _ ha trivial n)
  refine ⟨fun e => ⟨xs, h2, by rw [r.length, e]; exact Nat.le_refl _⟩, fun d hd => ?_⟩
  obtain ⟨x, hx, hr⟩ := r.get hd
  refine ⟨⟨xs, x, h2, hx⟩, fun y H3 hy => ?_⟩
  obtain ⟨rfl, hy⟩ := hy
  have e : y = x := Option.some.inj ((hy xs h2).symm.trans hx)
  subst e
  exact ⟨Sm.refl _, fun M' hm _ => hr.to (keep_fix mh keep) hm⟩
theorem it_tup {a : Addr} {xs : List V} {ds : List PyData} (mh : Mh H M) (ha : H a = some (.tup xs)) (r : RpA K P w H M xs ds) : ItOk K P w (Itt K a) H M ds := by
  intro H2 keep i
  have h2 : SqT K H2 a xs := SqT.of (keep_fix mh keep _ _ ha trivial (.inr trivial))
  refine ⟨fun e => ⟨xs, h2, by rw [r.length, e]; exact Nat.le_refl _⟩, fun d hd => ?_⟩
  obtain ⟨x, hx, hr⟩ := r.get hd
  refine ⟨⟨xs, x, h2, hx⟩, fun y H3 hy => ?_⟩
  obtain ⟨rfl, hy⟩ := hy
  have e : y = x := Option.some.inj ((hy xs h2).symm.trans hx)
  subst e
  exact ⟨Sm.refl _, fun M' hm _ => hr.to (keep_fix mh keep) hm⟩
theorem range_at {lo : Int} {n i : Nat} {d : PyData} (h : (rangeL lo n)[i]? = some d) : i < n ∧ d = .int (lo + (i : Nat)) := by
  unfold rangeL at h
  rw [List.getElem?_map] at h
  cases q : (List.range n)[i]? with
  | none => rw [q] at h; cases h
  | some j =>
    rw [q] at h
    obtain ⟨h1, h2⟩ := List.getElem?_eq_some_iff.mp q
    rw [List.getElem_range] at h2
    rw [List.length_range] at h1
    cases h
    exact ⟨h1, by rw [h2]⟩
theorem range_len (lo : Int) (n : Nat) : (rangeL lo n).length = n := by unfold rangeL; rw [List.length_map, List.length_range]
theorem it_range (lo : Int) (n : Nat) : ItOk K P w (Itr lo n) H M (rangeL lo n) := by
  intro H2 keep i
  refine ⟨fun e => by rw [range_len] at e; exact Nat.le_of_eq e.symm, fun d hd => ?_⟩
  obtain ⟨h1, rfl⟩ := range_at hd
  refine ⟨h1, fun y H3 hy => ?_⟩
  obtain ⟨rfl, rfl⟩ := hy
  exact ⟨Sm.refl _, fun M' hm _ => .int _⟩
theorem rangeC_at {lo c : Int} {n i : Nat} {d : PyData} (h : (rangeC lo c n)[i]? = some d) : i < n ∧ d = .int (lo + (i : Nat) * c) := by
  unfold rangeC at h
  rw [List.getElem?_map] at h
  cases q : (List.range n)[i]? with
  | none => rw [q] at h; cases h
  | some j =>
    rw [q] at h
    obtain ⟨h1, h2⟩ := List.getElem?_eq_some_iff.mp q
    rw [List.getElem_range] at h2
    rw [List.length_range] at h1
    cases h
    exact ⟨h1, by rw [h2]⟩
theorem it_rangeC (lo c : Int) (n : Nat) : ItOk K P w (Itc lo c n) H M (rangeC lo c n) := by
  intro H2 keep i
  refine ⟨fun e => by
    have hl : (rangeC lo c n).length = n := by unfold rangeC; rw [List.length_map, List.length_range]
    rw [hl] at e; exact Nat.le_of_eq e.symm, fun d hd => ?_⟩
  obtain ⟨h1, rfl⟩ := rangeC_at hd
  refine ⟨h1, fun y H3 hy => ?_⟩
  obtain ⟨rfl, rfl⟩ := hy
  exact ⟨Sm.refl _, fun M' hm _ => .int _⟩
theorem enum_at {ds : List PyData} {i : Nat} {d : PyData} (h : ((List.range ds.length).zipWith (fun (i : Nat) d => PyData.tuple [.int (i : Nat), d]) ds)[i]? = some d) : ∃ d0, ds[i]? = some d0 ∧ d = .tuple [.int (i : Nat), d0] := by
  rw [List.getElem?_zipWith] at h
  cases q : ds[i]? with
  | none => rw [q] at h; cases e : (List.range ds.length)[i]? <;> rw [e] at h <;> cases h
  | some d0 =>
    rw [q] at h
    cases e : (List.range ds.length)[i]? with
    | none => rw [e] at h; cases h
    | some j =>
      rw [e] at h
      obtain ⟨h1, h2⟩ := List.getElem?_eq_some_iff.mp e
      rw [List.getElem_range] at h2
      subst h2
      cases h
      exact ⟨d0, rfl, rfl⟩
theorem enum_len (ds : List PyData) : ((List.range ds.length).zipWith (fun (i : Nat) d => PyData.tuple [.int (i : Nat), d]) ds).length = ds.length := by
  rw [List.length_zipWith, List.length_range, Nat.min_self]
theorem it_enum {a : Addr} {xs : List V} {ds : List PyData} (mh : Mh H M) (ha : H a = some (.lst xs)) (n : ¬ M a) (r : RpA K P w H M xs ds) :
    ItOk K P w (Ite K a) H M ((List.range ds.length).zipWith (fun (i : Nat) d => PyData.tuple [.int (i : Nat), d]) ds) := by
  intro H2 keep i
  have h2 : SqL K H2 a xs := SqL.of (keep _ _ ha trivial n)
  refine ⟨fun e => ⟨xs, h2, by rw [enum_len] at e; rw [r.length, e]; exact Nat.le_refl _⟩, fun d hd => ?_⟩
  obtain ⟨d0, h0, rfl⟩ := enum_at hd
  obtain ⟨x, hx, hr⟩ := r.get h0
  refine ⟨⟨xs, x, h2, hx⟩, fun y H3 hy => ?_⟩
  obtain ⟨T, x', rfl, hT, rfl, hy⟩ := hy
  have e : x' = x := Option.some.inj ((hy xs h2).symm.trans hx)
  subst e
  exact ⟨Sm.new hT, fun M' hm _ => .tup upd_same (.cons (.int _) (.cons ((hr.to (keep_fix mh keep) hm).sm (Sm.new hT)) .nil))⟩
theorem it_enumT {a : Addr} {xs : List V} {ds : List PyData} (mh : Mh H M) (ha : H a = some (.tup xs)) (r : RpA K P w H M xs ds) :
    ItOk K P w (IteT K a) H M ((List.range ds.length).zipWith (fun (i : Nat) d => PyData.tuple [.int (i : Nat), d]) ds) := by
  intro H2 keep i
  have h2 : SqT K H2 a xs := SqT.of (keep _ _ ha trivial fun z => by obtain ⟨o, e, m⟩ := mh a z; rw [ha] at e; cases e; exact m)
  refine ⟨fun e => ⟨xs, h2, by rw [enum_len] at e; rw [r.length, e]⟩, fun d hd => ?_⟩
  obtain ⟨d0, h0, rfl⟩ := enum_at hd
  obtain ⟨x, hx, hr⟩ := r.get h0
  refine ⟨⟨xs, x, h2, hx⟩, fun y H3 hy => ?_⟩
  obtain ⟨T, x', rfl, hT, rfl, hy⟩ := hy
  have e : x' = x := Option.some.inj ((hy xs h2).symm.trans hx)
  subst e
  exact ⟨Sm.new hT, fun M' hm _ => .tup upd_same (.cons (.int _) (.cons ((hr.to (keep_fix mh keep) hm).sm (Sm.new hT)) .nil))⟩
theorem zip_at {ds es : List PyData} {i : Nat} {d : PyData} (h : (ds.zipWith (fun p q => PyData.tuple [p, q]) es)[i]? = some d) : ∃ d0 e0, ds[i]? = some d0 ∧ es[i]? = some e0 ∧ d = .tuple [d0, e0] := by
  rw [List.getElem?_zipWith] at h
  cases q : ds[i]? with
  | none => rw [q] at h; cases h
  | some d0 =>
    rw [q] at h
    cases e : es[i]? with
    | none => rw [e] at h; cases h
    | some e0 =>
      rw [e] at h
      cases h
      exact ⟨d0, e0, rfl, rfl, rfl⟩
theorem it_zip {a b : Addr} {xs ys : List V} {ds es : List PyData} (mh : Mh H M) (ha : H a = some (.lst xs)) (n : ¬ M a) (r : RpA K P w H M xs ds) (hb : H b = some (.lst ys)) (n' : ¬ M b) (r' : RpA K P w H M ys es) :
    ItOk K P w (Itz K a b) H M (ds.zipWith (fun p q => PyData.tuple [p, q]) es) := by
  intro H2 keep i
  have h2 : SqL K H2 a xs := SqL.of (keep _ _ ha trivial n)
  have h3 : SqL K H2 b ys := SqL.of (keep _ _ hb trivial n')
  refine ⟨fun e => ⟨xs, ys, h2, h3, by
    rw [List.length_zipWith] at e
    rw [r.length, r'.length, e]
    by_cases q : ds.length ≤ es.length
    · exact .inl (by rw [Nat.min_eq_left q]; exact Nat.le_refl _)
    · exact .inr (by rw [Nat.min_eq_right (by omega)]; exact Nat.le_refl _)⟩, fun d hd => ?_⟩
  obtain ⟨d0, e0, h4, h5, rfl⟩ := zip_at hd
  obtain ⟨x, hx, hr⟩ := r.get h4
  obtain ⟨y, hy, hr'⟩ := r'.get h5
  refine ⟨⟨xs, ys, x, y, h2, h3, hx, hy⟩, fun z H3 hz => ?_⟩
  obtain ⟨T, x', y', rfl, hT, rfl, q1, q2⟩ := hz
  have e1 : x' = x := Option.some.inj ((q1 xs h2).symm.trans hx)
  have e2 : y' = y := Option.some.inj ((q2 ys h3).symm.trans hy)
  subst e1 e2
  exact ⟨Sm.new hT, fun M' hm _ => .tup upd_same (.cons ((hr.to (keep_fix mh keep) hm).sm (Sm.new hT)) (.cons ((hr'.to (keep_fix mh keep) hm).sm (Sm.new hT)) .nil))⟩
theorem it_zipT {a b : Addr} {xs ys : List V} {ds es : List PyData} (mh : Mh H M) (ha : H a = some (.tup xs)) (r : RpA K P w H M xs ds) (hb : H b = some (.tup ys)) (r' : RpA K P w H M ys es) :
    ItOk K P w (ItzT K a b) H M (ds.zipWith (fun p q => PyData.tuple [p, q]) es) := by
  intro H2 keep i
  have h2 : SqT K H2 a xs := SqT.of (keep_fix mh keep _ _ ha trivial (.inr trivial))
  have h3 : SqT K H2 b ys := SqT.of (keep_fix mh keep _ _ hb trivial (.inr trivial))
  refine ⟨fun e => ⟨xs, ys, h2, h3, by
    rw [List.length_zipWith] at e
    rw [r.length, r'.length, e]
    by_cases q : ds.length ≤ es.length
    · exact .inl (by rw [Nat.min_eq_left q]; exact Nat.le_refl _)
    · exact .inr (by rw [Nat.min_eq_right (by omega)]; exact Nat.le_refl _)⟩, fun d hd => ?_⟩
  obtain ⟨d0, e0, h4, h5, rfl⟩ := zip_at hd
  obtain ⟨x, hx, hr⟩ := r.get h4
  obtain ⟨y, hy, hr'⟩ := r'.get h5
  refine ⟨⟨xs, ys, x, y, h2, h3, hx, hy⟩, fun z H3 hz => ?_⟩
  obtain ⟨T, x', y', rfl, hT, rfl, q1, q2⟩ := hz
  have e1 : x' = x := Option.some.inj ((q1 xs h2).symm.trans hx)
  have e2 : y' = y := Option.some.inj ((q2 ys h3).symm.trans hy)
  subst e1 e2
  exact ⟨Sm.new hT, fun M' hm _ => .tup upd_same (.cons ((hr.to (keep_fix mh keep) hm).sm (Sm.new hT)) (.cons ((hr'.to (keep_fix mh keep) hm).sm (Sm.new hT)) .nil))⟩
end

section
variable {G : GI} {F : Str → List PyData → R PyData} {k : Nat} {xc : Nat → Value} {N : List Str}

/-! ### sources -/
theorem semr_e {a : Iv.E} (ha : Sem G F k xc N a) : SemR G F k xc N (.e a) := fun {sc fs E X tg e} c h => by
  unfold chkS at h
  refine PI.mono (PI_or (pi_list (tg := tg) (ha.ss c h)) (pi_tup (tg := tg) (ha.ss c h))) ?_
  rintro σ H R ⟨Pn, M0, M, ρ, I, z⟩
  have z' : RP xc E H ((ev F false a ρ).bind fun x => match x with | .list ds => .ok ds | .tuple ds => .ok ds | _ => .bad) (fun ds => ∀ J H', Sm H H' → ItOk X.K X.prog X.w J H' M ds → R J H') := z
  cases ea : ev F false a ρ with
  | exc q =>
    rw [ea] at z'
    exact .inl ⟨Pn, M0, M, ρ, I, by rw [ea]; exact z'⟩
  | bad => rw [ea] at z'; exact (show False from z').elim
  | ok d =>
    rw [ea] at z'
    cases d with
    | list ds =>
      refine .inl ⟨Pn, M0, M, ρ, I, by
        rw [ea]
        intro v H1 s1 p
        cases p with
        | lst ha n r => exact ⟨_, rfl, ⟨_, SqL.of ha⟩, z' _ _ s1 (it_list (Mh.sm I.mh s1) ha n r)⟩⟩
    | tuple ds =>
      refine .inr ⟨Pn, M0, M, ρ, I, by
        rw [ea]
        intro v H1 s1 p
        cases p with
        | tup ha r => exact ⟨_, rfl, ⟨_, SqT.of ha⟩, z' _ _ s1 (it_tup (Mh.sm I.mh s1) ha r)⟩⟩
    | _ => exact (show False from z').elim
theorem semr_r1 {a : Iv.E} (ha : Sem G F k xc N a) : SemR G F k xc N (.r1 a) := fun {sc fs E X tg e} c h => by
  unfold chkS at h
  split at h
  · simp only [Bool.and_eq_true, decide_eq_true_eq] at h
    obtain ⟨⟨⟨e0, h1⟩, h2⟩, h3⟩ := h
    subst e0
    obtain ⟨g1, g2, _, _⟩ := c.blt' h1
    refine PI.mono (pi_range1 (tg := tg) g1 g2 (pa_cons (ha.rd c h3) pa_nil (star_of h2)) (star_of h2)) ?_
    rintro σ H R ⟨Pn, M0, M, ρ, I, z⟩
    refine ⟨Pn, M0, M, ρ, I, RP.bind (show RP xc E H ((ev F true a ρ).bind _) _ from z) |>.imp fun d _ h v H1 s1 p => ?_⟩
    cases d with
    | int i =>
      rw [RpR.int p]
      have h' : RP xc E H (if i < (LIM : Nat) ∧ -(LIM : Int) < i then Iv.R.ok (rangeL 0 i.toNat) else .bad) _ := h
      split at h'
      · rename_i q2
        simp only [LIM] at q2
        exact ⟨i, rfl, by omega, by omega, h' _ _ s1 (it_range 0 _)⟩
      · exact (show False from h').elim
    | _ => exact (show False from h).elim
  · cases h
theorem semr_r2 {a b : Iv.E} (ha : Sem G F k xc N a) (hb : Sem G F k xc N b) : SemR G F k xc N (.r2 a b) := fun {sc fs E X tg e} c h => by
  unfold chkS at h
  split at h
  · simp only [Bool.and_eq_true, decide_eq_true_eq] at h
    obtain ⟨⟨⟨⟨⟨e0, h1⟩, h2⟩, h3⟩, h4⟩, h5⟩ := h
    subst e0
    obtain ⟨g1, g2, _, _⟩ := c.blt' h1
    refine PI.mono (pi_range2 (tg := tg) g1 g2 (pa_cons (ha.rd c h4) (pa_cons (hb.rd c h5) pa_nil (star_of h3)) (star_of h2)) (by rw [star_of h2, star_of h3]; rfl) (star_of h3)) ?_
    rintro σ H R ⟨Pn, M0, M, ρ, I, z⟩
    refine ⟨Pn, M0, M, ρ, I, RP.bind (show RP xc E H ((ev F true a ρ).bind _) _ from z) |>.imp fun d _ h v H1 s1 p => ⟨Pn, M0, M, ρ, I.sm s1, (h.sm s1).bind.imp fun d2 _ h2 v2 H2 s2 p2 => ?_⟩⟩
    cases d <;> cases d2 <;> first | exact (show False from h2).elim | skip
    rename_i i _ j _
    rw [RpR.int p, RpR.int p2]
    have h3 : RP xc E H1 (if i < (LIM : Nat) ∧ -(LIM : Int) < i ∧ j < (LIM : Nat) ∧ -(LIM : Int) < j then Iv.R.ok (rangeL i (j - i).toNat) else .bad) _ := h2
    split at h3
    · rename_i q2
      simp only [LIM] at q2
      exact ⟨i, j, rfl, by omega, h3 _ _ (s1.trans s2) (it_range i _)⟩
    · exact (show False from h3).elim
  · cases h
theorem semr_r3 {a b d : Iv.E} (ha : Sem G F k xc N a) (hb : Sem G F k xc N b) (hd : Sem G F k xc N d) : SemR G F k xc N (.r3 a b d) := fun {sc fs E X tg e} c h => by
  unfold chkS at h
  split at h
  · simp only [Bool.and_eq_true, decide_eq_true_eq] at h
    obtain ⟨⟨⟨⟨⟨⟨⟨e0, h1⟩, h2⟩, h3⟩, h4⟩, h5⟩, h6⟩, h7⟩ := h
    subst e0
    obtain ⟨g1, g2, _, _⟩ := c.blt' h1
    refine PI.mono (pi_range3 (tg := tg) g1 g2 (pa_cons (ha.rd c h5) (pa_cons (hb.rd c h6) (pa_cons (hd.rd c h7) pa_nil (star_of h4)) (star_of h3)) (star_of h2)) (star_of h2) (by rw [star_of h3, star_of h4]; rfl)) ?_
    rintro σ H R ⟨Pn, M0, M, ρ, I, z⟩
    refine ⟨Pn, M0, M, ρ, I, RP.bind (show RP xc E H ((ev F true a ρ).bind _) _ from z) |>.imp fun d ed h v H1 s1 p => ⟨Pn, M0, M, ρ, I.sm s1, (h.sm s1).bind.imp fun d2 ed2 h2 v2 H2 s2 p2 =>
      ⟨Pn, M0, M, ρ, (I.sm s1).sm s2, (h2.sm s2).bind.imp fun d3 ed3 h3 v3 H3 s3 p3 => ?_⟩⟩⟩
    split at h3
    · rename_i i j
      rw [RpR.int p, RpR.int p2, RpR.int p3]
      split at h3
      · rename_i q2
        simp only [LIM] at q2
        exact ⟨i, j, -1, (i - j).toNat, rfl, RgC.neg (by omega) (by omega) (by omega) (by omega), h3 _ _ ((s1.trans s2).trans s3) (it_rangeC i (-1) _)⟩
      · exact (show False from h3).elim
    · exact (show False from h3).elim
  · cases h
theorem semr_enum {a : Iv.E} (ha : Sem G F k xc N a) : SemR G F k xc N (.enum a) := fun {sc fs E X tg e} c h => by
  unfold chkS at h
  rw [Bool.and_eq_true] at h
  obtain ⟨h0, h⟩ := h
  split at h0
  · rename_i elts kk tpos
    split at h
    · simp only [Bool.and_eq_true, decide_eq_true_eq] at h
      obtain ⟨⟨⟨e0, h1⟩, h2⟩, h3⟩ := h
      subst e0
      obtain ⟨g1, g2, _, _⟩ := c.blt' h1
      refine PI.mono (PI_or (pi_enum g1 g2 (pa_cons (ha.ss c h3) pa_nil (star_of h2)) (star_of h2)) (pi_enumT g1 g2 (pa_cons (ha.ss c h3) pa_nil (star_of h2)) (star_of h2))) ?_
      rintro σ H R ⟨Pn, M0, M, ρ, I, z⟩
      have z' : RP xc E H ((ev F false a ρ).bind fun x => match x with
        | .list ds => .ok ((List.range ds.length).zipWith (fun i d => .tuple [.int (i : Nat), d]) ds)
        | .tuple ds => .ok ((List.range ds.length).zipWith (fun i d => .tuple [.int (i : Nat), d]) ds)
        | _ => .bad) (fun ds => ∀ J H', Sm H H' → ItOk X.K X.prog X.w J H' M ds → R J H') := z
      cases hz : ev F false a ρ with
      | exc q =>
        rw [hz] at z'
        exact .inl ⟨Pn, M0, M, ρ, I, by rw [hz]; exact z'⟩
      | bad => rw [hz] at z'; exact (show False from z').elim
      | ok d =>
        rw [hz, Iv.R.bind_ok] at z'
        cases d with
        | list ds =>
          refine .inl ⟨Pn, M0, M, ρ, I, ?_⟩
          rw [hz]
          intro v H1 s1 p
          cases p with
          | lst ha n r => exact ⟨_, _, rfl, SqL.of ha, z' _ _ s1 (it_enum (Mh.sm I.mh s1) ha n r)⟩
        | tuple ds =>
          refine .inr ⟨Pn, M0, M, ρ, I, ?_⟩
          rw [hz]
          intro v H1 s1 p
          cases p with
          | tup ha r => exact ⟨_, _, rfl, SqT.of ha, z' _ _ s1 (it_enumT (Mh.sm I.mh s1) ha r)⟩
        | _ => exact (show False from z').elim
    · cases h
  · cases h0
theorem semr_zip {a b : Iv.E} (ha : Sem G F k xc N a) (hb : Sem G F k xc N b) : SemR G F k xc N (.zip a b) := fun {sc fs E X tg e} c h => by
  unfold chkS at h
  rw [Bool.and_eq_true] at h
  obtain ⟨h0, h⟩ := h
  split at h0
  · rename_i elts kk tpos
    split at h
    · simp only [Bool.and_eq_true, decide_eq_true_eq] at h
      obtain ⟨⟨⟨⟨⟨e0, h1⟩, h2⟩, h3⟩, h4⟩, h5⟩ := h
      subst e0
      obtain ⟨g1, g2, _, _⟩ := c.blt' h1
      refine PI.mono (pi_zipA g1 g2 (pa_cons (ha.ss c h4) (pa_cons (hb.ss c h5) pa_nil (star_of h3)) (star_of h2)) (star_of h2) (by rw [star_of h3]; rfl)) ?_
      rintro σ H R ⟨Pn, M0, M, ρ, I, z⟩
      refine ⟨Pn, M0, M, ρ, I, RP.bind (show RP xc E H ((ev F false a ρ).bind _) _ from z) |>.imp fun d _ h v H1 s1 p => ⟨Pn, M0, M, ρ, I.sm s1, (h.sm s1).bind.imp fun d2 _ h2 v2 H2 s2 p2 => ?_⟩⟩
      have p' := Rp.sm s2 p
      split at h2
      · cases p' with
        | lst ha n r =>
          cases p2 with
          | lst ha' n' r' => exact ⟨_, _, _, _, rfl, .inl ⟨SqL.of ha, SqL.of ha', h2 _ _ (s1.trans s2) (it_zip (Mh.sm (Mh.sm I.mh s1) s2) ha n r ha' n' r')⟩⟩
      · cases p' with
        | tup ha r =>
          cases p2 with
          | tup ha' r' => exact ⟨_, _, _, _, rfl, .inr ⟨SqT.of ha, SqT.of ha', h2 _ _ (s1.trans s2) (it_zipT (Mh.sm (Mh.sm I.mh s1) s2) ha r ha' r')⟩⟩
      · exact (show False from h2).elim
    · cases h
  · cases h0

/-! ### comprehensions -/
theorem wipe_get : ∀ (vs : List Nat) (σ : L2.St) (i : Nat), i ∈ vs → ∀ x, (L2.wipe σ vs)[i]? = some (some x) → False
  | v :: vs, σ, i, h, x, e => by
    have e' : ((L2.wipe σ vs).set v none)[i]? = some (some x) := e
    by_cases hv : v = i
    · subst hv
      rw [List.getElem?_set] at e'
      simp only [if_true] at e'
      split at e' <;> cases e'
    · rw [List.getElem?_set_ne hv] at e'
      rcases List.mem_cons.mp h with q | q
      · exact hv q.symm
      · exact wipe_get vs σ i q x e'
theorem wipe_wipe (σ : L2.St) : ∀ vs ws : List Nat, (∀ v ∈ vs, v ∈ ws) → L2.wipe (L2.wipe σ vs) ws = L2.wipe σ ws
  | [], ws, _ => rfl
  | v :: vs, ws, h => by
    show L2.wipe ((L2.wipe σ vs).set v none) ws = L2.wipe σ ws
    rw [wipe_set (h v List.mem_cons_self), wipe_wipe σ vs ws fun u hu => h u (List.mem_cons_of_mem _ hu)]
theorem ownOf_snd (N : List Str) (vs : List Nat) : (ownOf N vs).map (·.2) = vs := by
  unfold ownOf
  rw [List.map_map]
  exact List.map_id vs
theorem RpA.snocD {K : PySem.W.Frag} {P : Program} {w : World} {H : Hp} {M : Addr → Prop} {D : Addr} {acc : List V} {ys : List PyData} {y : V} {d : PyData} (hD : H D = some (.lst acc)) (m : M D)
    (h : RpA K P w H M acc ys) (hy : Rp K P w H M y d) : RpA K P w (upd H D (.lst (acc ++ [y]))) M (acc ++ [y]) (ys ++ [d]) := by
  have keep : ∀ b o, H b = some o → nt o → (¬ M b ∨ isFix o) → upd H D (.lst (acc ++ [y])) b = some o := fun b o e _ z => by
    have hb : b ≠ D := fun q => by
      subst q
      rcases z with z | z
      · exact z m
      · rw [hD] at e; cases e; exact z
    rw [upd_ne hb]; exact e
  exact (h.to keep fun _ z => .inl z).append (.cons (hy.to keep fun _ z => .inl z) .nil)
theorem comp_run {K : PySem.W.Frag} {P : Program} {w : World} {E : XK} {t : T} {s : Src} {o : Oe} {e : Iv.E} {vs : List Nat} {σ : L2.St} {H : Hp} {Q : VK}
    (h : tEv K P w xc E (ev F false (.comp t s o e vs)) (pO K P w) σ H Q) :
    tLc (tEvSC K P w xc E (esrc F s)) (gEv K P w (some vs) t) (tEvB K P w xc E0 (evc F o)) (tEv K P w xc E0 (ev F false e) (pS K P w)) vs σ H Q := by
  obtain ⟨Pn, M0, M, ρ, I, h⟩ := h
  have h' : RP xc E H ((esrc F s ρ).bind fun xs => if xs.length < LIM then (compL (fun x => match bindT t x (wipeE ρ vs) with
      | none => .bad
      | some ρ1 => (evc F o ρ1).bind fun k => if k then (ev F false e ρ1).bind fun y => .ok (some y) else .ok none) xs).bind fun ys => .ok (.list ys) else .bad).nox (fun d => ∀ v H', Sm H H' → pO K P w H M H' v d → Q v H') := h
  generalize hbd : (fun x => match bindT t x (wipeE ρ vs) with
      | none => R.bad
      | some ρ1 => (evc F o ρ1).bind fun k => if k then (ev F false e ρ1).bind fun y => R.ok (some y) else R.ok none) = bd at h'
  have h0 := (RP.nox (xc' := xc) (E' := E0) h')
  cases hsrc : esrc F s ρ with
  | exc q => rw [hsrc] at h0; exact (h0 H (Sm.refl _)).elim
  | bad => rw [hsrc] at h0; exact (show False from h0).elim
  | ok xs =>
  rw [hsrc, R.bind_ok] at h0
  split at h0
  case isFalse => exact (show False from h0).elim
  rename_i hlen
  have hys : ∃ ys, compL bd xs = .ok ys ∧ ∀ v H', Sm H H' → pO K P w H M H' v (.list ys) → Q v H' := by
    cases q : compL bd xs with
    | ok ys => rw [q] at h0; exact ⟨ys, rfl, h0⟩
    | bad => rw [q] at h0; exact (show False from h0).elim
    | exc cc => rw [q] at h0; exact (h0 H (Sm.refl _)).elim
  refine ⟨Pn, M0, M, ρ, I, ?_⟩
  rw [hsrc]
  intro J H1 s1 hJ D hD
  obtain ⟨ys, hys, k⟩ := hys
  have hDH : nn H D := s1.nn (nn_of hD)
  refine ⟨fun i m Hc => m = xs.length - i ∧ i ≤ xs.length ∧ Sm H1 Hc ∧ ∃ acc yi yr, Hc D = some (.lst acc) ∧ RpA K P w Hc (fun a => M a ∨ a = D) acc yi ∧ acc.length ≤ i ∧ compL bd (xs.drop i) = .ok yr ∧ ys = yi ++ yr,
    ⟨xs.length, by rw [Nat.sub_zero], Nat.zero_le _, Sm.new hD, [], [], ys, upd_same, .nil, Nat.le_refl _, hys, rfl⟩, fun i m Hc hW => ?_⟩
  obtain ⟨rfl, hi, sc, acc, yi, yr, hDc, ra, hal, hyr, rfl⟩ := hW
  have hMh : Mh Hc (fun a => M a ∨ a = D) := fun a z => by
    rcases z with z | rfl
    · exact Mh.sm (Mh.sm I.mh s1) sc a z
    · exact ⟨_, hDc, trivial⟩
  have hMsub : ∀ a, (M a ∨ a = D) → M a ∨ nn H1 a := fun a z => z.elim .inl fun z => .inr (by rw [z]; exact nn_of hD)
  by_cases hlt : i < xs.length
  · right
    obtain ⟨x, hx⟩ : ∃ x, xs[i]? = some x := ⟨_, List.getElem?_eq_getElem hlt⟩
    obtain ⟨_, hgo⟩ := hJ Hc sc i
    obtain ⟨hgo, hyld⟩ := hgo x hx
    have hdr : xs.drop i = x :: xs.drop (i + 1) := by
      rw [List.drop_eq_getElem_cons hlt]
      congr 1
      rw [List.getElem?_eq_getElem hlt] at hx
      exact Option.some.inj hx
    rw [hdr] at hyr
    unfold compL at hyr
    refine ⟨hgo, fun H' => ∃ m', m' < xs.length - i ∧ m' = xs.length - (i + 1) ∧ i + 1 ≤ xs.length ∧ Sm H1 H' ∧ ∃ acc yi' yr', H' D = some (.lst acc) ∧ RpA K P w H' (fun a => M a ∨ a = D) acc yi' ∧ acc.length ≤ i + 1 ∧ compL bd (xs.drop (i + 1)) = .ok yr' ∧ yi ++ yr = yi' ++ yr',
      fun H' ⟨m', a, b⟩ => ⟨m', a, b⟩, fun v H' hy => ?_⟩
    obtain ⟨sy, hv⟩ := hyld v H' hy
    have hv := hv (fun a => M a ∨ a = D) hMsub hMh
    cases hb : bd x with
    | exc q => rw [hb] at hyr; cases hyr
    | bad => rw [hb] at hyr; cases hyr
    | ok ob =>
      rw [hb, R.bind_ok] at hyr
      obtain ⟨yr', hr, hyr⟩ : ∃ yr', compL bd (xs.drop (i + 1)) = .ok yr' ∧ ocons ob yr' = yr := by
        cases hr : compL bd (xs.drop (i + 1)) with
        | exc q => rw [hr] at hyr; cases hyr
        | bad => rw [hr] at hyr; cases hyr
        | ok yr' =>
          rw [hr, R.bind_ok] at hyr
          exact ⟨yr', rfl, Iv.R.ok.inj hyr⟩
      · 
        rw [← hbd] at hb
        simp only at hb
        split at hb
        · cases hb
        rename_i ρ1 hρ1
        have I1 : SIv K P w Pn M0 (fun a => M a ∨ a = D) (L2.wipe σ vs) H' (wipeE ρ vs) := (((I.sm s1).hide sc (nn_of hD) ⟨_, hDc, trivial⟩).wipe vs).sm sy
        refine ⟨Pn, M0, _, wipeE ρ vs, x, ρ1, I1, hv, hρ1, fun σ2 I2 hw => ⟨?_, Pn, M0, _, ρ1, I2, ?_⟩⟩
        · rw [hw vs rfl, wipe_wipe σ vs vs fun _ z => z]
        have nxt : ∀ H3 : Hp, Sm H' H3 → ob = none → ∃ m', m' < xs.length - i ∧ m' = xs.length - (i + 1) ∧ i + 1 ≤ xs.length ∧ Sm H1 H3 ∧ ∃ acc yi' yr', H3 D = some (.lst acc) ∧ RpA K P w H3 (fun a => M a ∨ a = D) acc yi' ∧ acc.length ≤ i + 1 ∧ compL bd (xs.drop (i + 1)) = .ok yr' ∧ yi ++ yr = yi' ++ yr' := by
          intro H3 s3 eo
          subst eo
          refine ⟨_, by omega, rfl, hlt, (sc.trans sy).trans s3, acc, yi, yr', s3.st _ _ (sy.st _ _ hDc trivial) trivial, (ra.sm sy).sm s3, by omega, hr, by rw [← hyr]; rfl⟩
        cases hcd : evc F o ρ1 with
        | exc q => rw [hcd] at hb; cases hb
        | bad => rw [hcd] at hb; cases hb
        | ok bb =>
          rw [hcd, R.bind_ok] at hb
          intro H3 s3
          cases bb with
          | false =>
            refine iteF ?_
            have eo : ob = none := by
              simp only [Bool.false_eq_true, if_false] at hb
              exact (R.ok.inj hb).symm
            exact nxt H3 s3 eo
          | true =>
            refine iteT ?_
            simp only [if_true] at hb
            cases hee : ev F false e ρ1 with
            | exc q => rw [hee] at hb; cases hb
            | bad => rw [hee] at hb; cases hb
            | ok y =>
              rw [hee, R.bind_ok] at hb
              have eo := R.ok.inj hb
              subst eo
              refine ⟨Pn, M0, _, ρ1, I2.sm s3, ?_⟩
              rw [hee]
              intro u H4 s4 p
              have hD4 : H4 D = some (.lst acc) := s4.st _ _ (s3.st _ _ (sy.st _ _ hDc trivial) trivial) trivial
              refine ⟨acc, hD4, ?_, _, by omega, rfl, hlt, (((sc.trans sy).trans s3).trans s4).wrL hD hD4, acc ++ [u], yi ++ [y], yr', upd_same, RpA.snocD hD4 (.inr rfl) (((ra.sm sy).sm s3).sm s4) p, ?_, hr, ?_⟩
              · have : acc.length < LIM := by omega
                exact Nat.lt_of_lt_of_le this lim_le
              · rw [List.length_append]
                show acc.length + 1 ≤ i + 1
                omega
              · rw [← hyr, List.append_assoc]; rfl
  · left
    have ei : i = xs.length := by omega
    obtain ⟨hst, _⟩ := hJ Hc sc i
    refine ⟨hst ei, ?_⟩
    have er : yr = [] := by
      have : xs.drop i = [] := List.drop_eq_nil_of_le (by omega)
      rw [this] at hyr
      exact (R.ok.inj hyr).symm
    subst er
    rw [List.append_nil] at k
    exact k _ _ (s1.trans sc) ⟨D, rfl, hDH, .inl ⟨acc, yi, rfl, hDc, ra⟩⟩
/-- a name's own list, walked by a comprehension -/
theorem semrc_own {i : Nat} {sc : Scope} {fs : Str → Bool} {E : XK} {X : Cx} {tg e : Expr} (c : Cxt G F k xc N sc fs E X) (h : (match e with | .Name x _ => decide (N[i]? = some x) && isVis sc x && okN x | _ => false) = true) :
    PI X tg e (tEvSC X.K X.prog X.w xc E (esrc F (.own i))) := by
  have h' : chkE G N (.v i) sc e = true := by unfold chkE; exact h
  refine PI.mono (pi_list (tg := tg) ((sem_v i).rd c h')) ?_
  rintro σ H R ⟨Pn, M0, M, ρ, I, z⟩
  have z' : RP xc E H ((rdS true ρ[i]?).bind fun x => match x with | .list ds => .ok ds | _ => .bad) (fun ds => ∀ J H', Sm H H' → ItOkC X.K X.prog X.w J H' M ds → R J H') := z
  refine ⟨Pn, M0, M, ρ, I, (RP.bind z').imp fun d _ h2 v H1 s1 p => ?_⟩
  cases d with
  | list ds =>
    obtain ⟨a, xs, rfl, ha, ra⟩ := RpR.lst p
    refine ⟨a, rfl, ⟨xs, SqL.of ha⟩, h2 _ H1 s1 fun H2 s2 j => ?_⟩
    have q2 : SqL X.K H2 a xs := SqL.of (s2.st _ _ ha trivial)
    refine ⟨fun e => ⟨xs, q2, by rw [ra.length, e]; exact Nat.le_refl _⟩, fun d hd => ?_⟩
    obtain ⟨x, hx, hr⟩ := ra.get hd
    refine ⟨⟨xs, x, q2, hx⟩, fun y H3 hy => ?_⟩
    obtain ⟨rfl, hy⟩ := hy
    have e : y = x := Option.some.inj ((hy xs q2).symm.trans hx)
    subst e
    exact ⟨Sm.refl _, fun M' hm _ => hr.to (fun b o e n _ => s2.st b o e n) hm⟩
  | _ => exact (show False from h2).elim
theorem semrc {s : Src} {sc : Scope} {tg e : Expr}
    (h : (match s with | .own i => (match e with | .Name x _ => decide (N[i]? = some x) && isVis sc x && okN x | _ => false) | _ => chkS G N s sc tg e) = true) (hs : SemR G F k xc N s) {fs : Str → Bool} {E : XK} {X : Cx} (c : Cxt G F k xc N sc fs E X) : PI X tg e (tEvSC X.K X.prog X.w xc E (esrc F s)) := by
  have go : chkS G N s sc tg e = true → PI X tg e (tEvSC X.K X.prog X.w xc E (esrc F s)) := fun q =>
    PI.mono (hs c q) fun σ H R ⟨Pn, M0, M, ρ, I, z⟩ => ⟨Pn, M0, M, ρ, I, z.imp fun ds _ h J H' s' ok => h J H' s' (ItOk.c _ _ _ ok)⟩
  cases s with
  | own i => exact semrc_own c h
  | e a => exact go h
  | r1 a => exact go h
  | r2 a b => exact go h
  | r3 a b d => exact go h
  | enum a => exact go h
  | zip a b => exact go h
theorem sem_comp {t : T} {s : Src} {o : Oe} {e : Iv.E} {vs : List Nat} (hs : SemR G F k xc N s) (ho : SemC G F k xc N o) (he : Sem G F k xc N e) : Sem G F k xc N (.comp t s o e vs) := by
  refine Sem.mk1 (fun _ => rfl) (fun {sc fs E X e'} c h => ?_) fun _ _ h => by simp [chkB] at h
  unfold chkE at h
  split at h
  · rename_i elt tg iter ifs scope pos
    simp only [Bool.and_eq_true] at h
    obtain ⟨⟨⟨⟨⟨h1, h2⟩, h3⟩, h4⟩, h5⟩, h6⟩ := h
    refine PE.mono (pe_lc (own := ownOf N vs) (g := gEv X.K X.prog X.w (some vs) t) (tt := tEvB X.K X.prog X.w xc E0 (evc F o)) (te := tEv X.K X.prog X.w xc E0 (ev F false e) (pS X.K X.prog X.w)) c.calm (by rw [c.names]; exact c.nd) (semrc h3 hs c) (by rw [c.names, c.scope]; exact blkOk_by h1)
      (fun s H C cl fp => pg_t (c.blk s H scope C cl fp) h2) (fun s H C cl fp => ho (c.blk s H scope C cl fp) h4) (fun s H C cl fp => he.ss (c.blk s H scope C cl fp) h5) (set_of h6)) ?_
    intro σ H Q z
    rw [ownOf_snd]
    exact comp_run z
  · cases h

/-! ### ranges as values -/
theorem rpa_range {K : PySem.W.Frag} {P : Program} {w : World} {H : Hp} {M : Addr → Prop} (n : Int) : RpA K P w H M (rgV 0 n) (rangeL 0 n.toNat) := by
  unfold rgV rangeL
  rw [show n - 0 = n from Int.sub_zero n]
  generalize List.range n.toNat = l
  induction l with
  | nil => exact .nil
  | cons a r ih => exact .cons (.int _) ih
theorem sem_rng {tp : Bool} {a : Iv.E} (ha : Sem G F k xc N a) : Sem G F k xc N (.rng tp a) := by
  refine Sem.mk1 (fun _ => rfl) (fun {sc fs E X e'} c h => ?_) fun _ _ h => by simp [chkB] at h
  unfold chkE at h
  split at h
  · rename_i y _ z _ x _ _
    simp only [Bool.and_eq_true, decide_eq_true_eq] at h
    obtain ⟨⟨⟨⟨⟨e0, h1⟩, e1⟩, h2⟩, h3⟩, h4⟩ := h
    subst e1
    obtain ⟨g1, g2, g3, g4⟩ := c.blt' h1
    obtain ⟨k1, k2, k3, k4⟩ := c.blt' h2
    have hR : ∀ p pos, PRg X (.Call (.Name "range" p) [x] [] pos) (tRg1 (tEv X.K X.prog X.w xc E (ev F true a) (pR X.K X.prog X.w))) := fun p pos => prg_1 k1 k2 (ha.rd c h4) (star_of h3)
    cases tp with
    | true =>
      subst e0
      refine PE.mono (pe_tupRg c.calm g1 g2 (hR _ _)) ?_
      rintro σ H Q ⟨Pn, M0, M, ρ, I, h⟩
      refine ⟨Pn, M0, M, ρ, I, RP.bind (show RP xc E H ((ev F true a ρ).bind _) _ from h) |>.imp fun d _ h v H1 s1 p => ?_⟩
      cases d with
      | int n =>
        have h' : RP xc E H (if n < (LIM : Nat) ∧ -(LIM : Int) < n then Iv.R.ok (PyData.tuple (rangeL 0 n.toNat)) else .bad) _ := h
        split at h'
        · rename_i q
          simp only [LIM] at q
          exact ⟨n, RpR.int p, ⟨by omega, by omega, by omega, by omega, by omega⟩, fun r hr => h' _ _ (s1.trans (Sm.new hr)) ((rpa_range n).newTup hr)⟩
        · exact (show False from h').elim
      | _ => exact (show False from h).elim
    | false =>
      subst e0
      refine PE.mono (pe_listRg c.calm g1 g2 (hR _ _)) ?_
      rintro σ H Q ⟨Pn, M0, M, ρ, I, h⟩
      refine ⟨Pn, M0, M, ρ, I, RP.bind (show RP xc E H ((ev F true a ρ).bind _) _ from h) |>.imp fun d _ h v H1 s1 p => ?_⟩
      cases d with
      | int n =>
        have h' : RP xc E H (if n < (LIM : Nat) ∧ -(LIM : Int) < n then Iv.R.ok (PyData.list (rangeL 0 n.toNat)) else .bad) _ := h
        split at h'
        · rename_i q
          simp only [LIM] at q
          refine ⟨n, RpR.int p, ⟨by omega, by omega, by omega, by omega, by omega⟩, fun r hr => h' _ _ (s1.trans (Sm.new hr)) ⟨r, rfl, ?_, .inl ⟨_, _, rfl, upd_same, rpa_range n⟩⟩⟩
          exact s1.nn (nn_of hr)
        · exact (show False from h').elim
      | _ => exact (show False from h).elim
  · cases h

/-! ### sorted(range(n), key=lambda i: b) -/
theorem rpa_ints {K : PySem.W.Frag} {P : Program} {w : World} {H : Hp} {M : Addr → Prop} : ∀ l : List Nat, RpA K P w H M (l.map fun i => V.int (i : Nat)) (l.map fun i => PyData.int (i : Nat))
  | [] => .nil
  | _ :: r => .cons (.int _) (rpa_ints r)
theorem Cxt.inLam {sc scope : Scope} {fs : Str → Bool} {E : XK} {X : Cx} (c : Cxt G F k xc N sc fs E X) {A : Around} {outer : List PySem.Env} {s : Shared} {H : Hp} {f c' : Addr} (hr : Room k (A.deeper (LamX.lamEnv X scope s.heap.objs.size f c'))) :
    Cxt { G with lam := false } F k xc N scope (fun _ => false) E0 (LamX.lamCx X A outer s H E0 scope f c') where
  names := c.names
  nd := c.nd
  scope := rfl
  calm := rfl
  fnb := fun _ z => nomatch z
  fns := c.fns
  blt := c.blt
  con := c.con
  room := hr
  lam := fun z => nomatch z
  pass := passL
theorem nofr_of {X : Cx} {pins : List (Addr × Obj)} {σ : L2.St} {H : Hp} {s : Shared} {f : Addr} {o : Obj} (I : Inv X pins σ H s) (ho : s.heap.get? f = some o) (hd : ∀ en ep, o.data ≠ .dict en ep) : f ≠ X.env.locals := fun z => by
  obtain ⟨m, ⟨o', en, ep, h1, h2, _⟩, _⟩ := I.loc
  rw [← z, ho] at h1
  cases h1
  exact hd _ _ h2
theorem sem_srtKey {a b : Iv.E} {i : Nat} (ha : Sem G F k xc N a) (hb : Sem { G with lam := false } F k xc N b) : Sem G F k xc N (.srtKey a i b) := by
  refine Sem.mk1 (fun _ => rfl) (fun {sc fs E X e'} c h => ?_) fun _ _ h => by simp [chkB] at h
  unfold chkE at h
  split at h
  · rename_i y py z pz x pz2 kn p pp be scope lpos kpos pos
    simp only [Bool.and_eq_true, decide_eq_true_eq] at h
    obtain ⟨⟨⟨⟨⟨⟨⟨⟨⟨⟨⟨hl, e1⟩, h1⟩, e2⟩, h2⟩, h3⟩, h4⟩, e3⟩, e4⟩, h5⟩, h6⟩, h7⟩ := h
    subst e1 e2 e3 e4
    obtain ⟨g1, g2, g3, g4⟩ := c.blt' h1
    obtain ⟨k1, k2, k3, k4⟩ := c.blt' h2
    obtain ⟨cc, P, TB, hcode, hmT, hu⟩ := c.lam hl
    have L : LamP X.env.scope scope "_law_one" := by rw [c.scope]; exact lamP_of h6
    refine ⟨fun pins s σ H Q I hh => ?_⟩
    obtain ⟨Pn, M0, M, ρ, J, hr⟩ := hh
    have na : starEach [x] X.env = (false, eval x X.env) :: starEach [] X.env := star_of h3
    have hr1 := RP.bind (show RP xc E H ((ev F true a ρ).bind _) _ from hr)
    refine wpAny_Call_Name_kw (ld_blt I g1 g2 boot_sorted ?_)
    refine PyProof.Rows.callWith_kw ?_
    refine args_cons (Call_ (ld_blt I k1 k2 boot_range (PyProof.Rows.callWith_type1 (one_arg (R := fun v H1 => ∃ n : Int, v = .int n ∧ Sm H H1 ∧ 0 ≤ n ∧ n < (LIM : Nat) ∧ (List.range n.toNat).all (fun j => (keyN (ev F false b (ρ.set i (.val (.int (j : Nat)))))).isSome) = true ∧
      ∀ (p : Addr) (H' : Hp), Sm H1 H' → H' p = none → Q (.ref p) (upd H' p (.lst (((List.range n.toNat).mergeSort (PySem.W.dataLe false fun j => .int ((keyN (ev F false b (ρ.set i (.val (.int (j : Nat)))))).getD 0))).map fun i => V.int (i : Nat))))) (ha.rd c h4) I ⟨Pn, M0, M, ρ, J, hr1.imp fun d _ h v H1 s1 q => ?_⟩ (fun v s2 y H2 I2 r q => ?_) na) na)))
    · cases d with
      | int n =>
        have h' : RP xc E H (if 0 ≤ n ∧ n < (LIM : Nat) ∧ (List.range n.toNat).all (fun j => (keyN (ev F false b (ρ.set i (.val (.int (j : Nat)))))).isSome) = true then
          Iv.R.ok (PyData.list (srtBy n.toNat fun j => (keyN (ev F false b (ρ.set i (.val (.int (j : Nat)))))).getD 0)) else .bad) _ := h
        split at h'
        · rename_i z
          obtain ⟨z1, z2, z3⟩ := z
          refine ⟨n, RpR.int q, s1, z1, z2, z3, fun p H' s2 hp => h' _ _ ((s1.trans s2).trans (Sm.new hp)) ⟨p, rfl, (s1.trans s2).nn (nn_of hp), .inl ⟨_, _, rfl, upd_same, rpa_ints _⟩⟩⟩
        · exact (show False from h').elim
      | _ => exact (show False from h).elim
    · obtain ⟨n, rfl, s1, z1, z2, z3, kQ⟩ := q
      obtain ⟨t, rfl⟩ := r
      refine call_range_1 (args_nil ?_)
      have hrg : IsRange (s2.heap.push { cls := .type "range", data := .fields #[.int 0 s2.toks, .int n t, .int 1 (s2.toks + 1)] }) s2.heap.objs.size 0 n 1 s2.toks t (s2.toks + 1) := IsRange.new _ _ _ _ _ _ _
      have I3 : Inv X pins σ H2 { s2 with heap := s2.heap.push { cls := .type "range", data := .fields #[.int 0 s2.toks, .int n t, .int 1 (s2.toks + 1)] }, toks := s2.toks + 1 + 1 } := I2.kept fun b u e => Heap.get?_push_of_some _ e
      have I4 := fp_pin I3 (I2.fpOk (Nat.le_refl _) (I2.hok.fresh (Nat.le_refl _))) hrg fun v z => nomatch z
      refine wpAny_evalAll_cons (wpAny_bind (thn (LamX.lam_make2 I4 TB hcode hmT hu (J.sm s1).tb rfl (fun y hy e => L.has I4.ok y hy e) fun f c' pm ctv H5 s5 I5 eN T5 hf hfn hfr hco => ?_) fun u s q => q))
      refine wpAny_bind (wpAny_standAt (wpAny_pure (wpAny_evalAll_nil ?_)))
      have sm5 : Sm H2 H5 := ⟨fun b o e n => eN b o e fun ps => nt_ne n ps, fun _ => T5⟩
      obtain ⟨hrg5, _⟩ := I5.pin _ (List.mem_append_right _ (.head _))
      have hfl : f ≠ X.env.locals := nofr_of I5 hf fun _ _ z => nomatch z
      have hffs : f ∉ X.fs := fun z => by
        rcases I5.ok.stk with e | ⟨e, _⟩
        · rw [e] at hfr; exact hfr z
        · rw [e] at hfr
          refine hfr ?_
          unfold frs
          rw [List.filterMap_cons]
          split
          · exact z
          · exact .tail _ z
      have I6 : Inv X ((f, PySem.W.kla_obj "<lambda>" (X.env.qual ++ "<lambda>") ⟨[], [⟨"_law_one", none, pp⟩], none, [], [], none, []⟩ be scope (cloFrom X.env.cells scope.names []) pm c' ctv) :: (s2.heap.objs.size, _) :: pins) σ H5 s5 := I5.pins_of fun q hq => by
        rcases List.mem_cons.mp hq with e | hq
        · subst e
          exact ⟨hf, hfn, hfl, hffs, fun _ z => nomatch z⟩
        · exact I5.pin q (List.mem_append_right _ hq)
      have hnn : ((n.toNat : Nat) : Int) = n := Int.toNat_of_nonneg z1
      refine thn (sorted_range (n := n.toNat) (key := fun j => (keyN (ev F false b (ρ.set i (.val (.int (j : Nat)))))).getD 0) (Q := Q) I6 c.calm (by rw [hnn]; exact hrg5) (by simp only [LIM] at z2; omega) (by have := c.hu; omega) ?_ fun H' p s6 hp => kQ p H' (sm5.trans s6) hp) fun v s ⟨x, H', I', r, q⟩ => ⟨x, H', I'.pins_of fun q hq => I'.pin q (List.mem_append_right _ (.tail _ (.tail _ hq))), r, q⟩
      intro pins' j u s' H' E' hsub hj hu' I' sm'
      have hf' := (I'.pin _ (List.mem_append_right _ (hsub _ (.head _)))).1
      have hco' : H' c' = some (LamX.CodeO c' (X.env.qual ++ "<lambda>")) := sm'.st _ _ hco trivial
      have rm : Room (k + 1) X.A := by
        have z := c.room
        rw [hl] at z
        exact z
      have hroom : Room k (X.A.in1.in1.deeper (LamX.lamEnv X scope s'.heap.objs.size f c')) := by
        refine ⟨rm.hd, ?_, ?_⟩
        · have := rm.dp
          show X.A.depth + 1 + 3 * k + 5 < _
          omega
        · have := rm.un
          show X.A.units + 1 + 1 + 3 + 16 * k + 200 < _
          omega
      have key := List.all_eq_true.mp z3 j (List.mem_range.mpr hj)
      refine wpAny_call (codeAny_mono (lam_call (E := E0) (Q := fun v H'' => Sm H' H'' ∧ v = .int ((keyN (ev F false b (ρ.set i (.val (.int (j : Nat)))))).getD 0)) I' L (by rw [c.names]; exact h5) (by rw [c.names]; exact c.nd) hu' hf' hco' rfl I'.env0.in1.in1 rm.hd (by have := rm.dp; show X.A.depth < _; omega)
        (hb.ss (Cxt.inLam c hroom) h7) ?_) fun r s'' hq => ?_)
      · refine ⟨Pn, M0, M, ρ.set i (.val (.int (j : Nat))), (((J.sm s1).sm sm5).sm sm').set (.int _), ?_⟩
        cases q : ev F false b (ρ.set i (.val (.int (j : Nat)))) with
        | ok d =>
          rw [q] at key
          cases d with
          | int z =>
            intro v H'' s7 r
            cases r
            exact ⟨s7, rfl⟩
          | _ => exact nomatch key
        | exc _ => rw [q] at key; exact nomatch key
        | bad => rw [q] at key; exact nomatch key
      · cases r with
        | error e => obtain ⟨_, _, _, _, _, _, _, _, _, _, _, _, z⟩ := hq; exact z.elim
        | ok fl =>
          cases fl with
          | ret u =>
            obtain ⟨v, H'', I'', rv, s7, rfl⟩ := I'.after hq
            obtain ⟨t7, rfl⟩ := rv
            exact ⟨H'', I'', s7, t7, rfl⟩
          | next => exact False.elim hq
          | brk => exact False.elim hq
          | cont => exact False.elim hq
  · cases h

/-! ### methods -/
theorem pmeth_no (m : Me) (x : PyData) (xs : List PyData) (c : Nat) : pmeth m x xs ≠ .exc c := by
  intro h
  unfold pmeth at h
  split at h
  · split at h
    · split at h <;> cases h
    · cases h
  · split at h <;> cases h
  · split at h <;> cases h
  · split at h <;> cases h
  · cases h
theorem few_of {es : Es} {sc : Scope} {a : Expr} {r : List Expr} {env : PySem.Env} {pos : Pos} (h : chkEs G N es sc (a :: r) = true) (hl : r.length < 20) :
    ((backTo pos (starEach (a :: r) env)).all (fun x => !x.1) && (backToKw pos (keywordEach [] env)).all (fun x => x.1.isSome) && decide ((a :: r).length + ([] : List Keyword).length + (if ([] : List Keyword).isEmpty then 0 else 1) < 30)) = true := by
  have go : ∀ {es : Es} {l : List Expr}, chkEs G N es sc l = true → (backTo pos (starEach l env)).all (fun x => !x.1) = true := by
    intro es l q
    have q' := stars_of (pos := pos) (env := env) q
    rw [List.any_eq_false] at q'
    rw [List.all_eq_true]
    intro x hx
    have := q' x hx
    cases e : x.1 with
    | false => rfl
    | true => exact (this e).elim
  rw [Bool.and_eq_true, Bool.and_eq_true]
  refine ⟨⟨go h, rfl⟩, decide_eq_true ?_⟩
  show r.length + 1 + 0 + 0 < 30
  omega
theorem sem_meth {m : Me} {o : Iv.E} {es : Es} (ho : Sem G F k xc N o) (hs : SemS G F k xc N es) : Sem G F k xc N (.meth m o es) := by
  refine Sem.mk1 (fun _ => rfl) (fun {sc fs E X e'} c h => ?_) fun _ _ h => by simp [chkB] at h
  unfold chkE at h
  split at h
  · rename_i x nm apos a r cpos
    simp only [Bool.and_eq_true, decide_eq_true_eq] at h
    obtain ⟨⟨⟨⟨⟨⟨h0, e0⟩, h1⟩, h2⟩, h3⟩, h4⟩, h5⟩ := h
    obtain ⟨s1, s2⟩ := rest_of (env := X.env) h4
    have hu := c.hu
    subst e0
    have run : ∀ {d : PyData} {v : V} {σ : L2.St} {H H1 : Hp} {Q : VK} {Pn : Addr → HO → Prop} {M0 M : Addr → Prop} {ρ : Env}, SIv X.K X.prog X.w Pn M0 M σ H ρ → Sm H H1 → RpR X.K X.prog X.w H1 M v d →
        RP xc E H (if meOk m d = true then (evs F es ρ).bind fun xs => pmeth m d xs else R.bad) (fun d => ∀ v H', Sm H H' → pst X.K X.prog X.w (.meth m o es) H M H' v d → Q v H') →
        tEvs X.K X.prog X.w xc E (evs F es) σ H1 fun vs H2 => rMe X.K X.prog X.w m v vs H2 Q := by
      intro d v σ H H1 Q Pn M0 M ρ I s1 p h
      by_cases ok : meOk m d = true
      · rw [if_pos ok] at h
        refine ⟨Pn, M0, M, ρ, I.sm s1, (h.bind.sm s1).imp fun xs _ h2 vs H2 s2 q => ?_⟩
        cases hz : pmeth m d xs with
        | ok r =>
          rw [hz] at h2
          exact ⟨M, d, xs, r, Mh.sm (Mh.sm I.mh s1) s2, RpR.sm s2 p, q, hz, fun v' H3 s3 o3 => h2 v' H3 ((s1.trans s2).trans s3) o3⟩
        | exc q => exact (pmeth_no _ _ _ _ hz).elim
        | bad => rw [hz] at h2; exact (show False from h2).elim
      · rw [if_neg ok] at h; exact (show False from h).elim
    cases m with
    | index =>
      refine PE.mono (pe_bm PySem.F.plainAttrs_list PySem.F.slot_list_index PySem.F.type_list_index (me_index (by omega)) (ho.rd c h3) (hs.st c h4) (plainB_of h2) (few_of h4 h5) h1 s1 (s2 _)) ?_
      rintro σ H Q ⟨Pn, M0, M, ρ, I, h⟩
      refine ⟨Pn, M0, M, ρ, I, RP.bind (show RP xc E H ((ev F true o ρ).bind _) _ from h) |>.imp fun d _ h v H1 s1 p => ?_⟩
      cases d with
      | list ds =>
        obtain ⟨a, ys, rfl, ha, ra⟩ := RpR.lst p
        exact ⟨.inl ⟨rfl, _, SqL.of ha⟩, run I s1 p h⟩
      | _ => exact (show False from h).elim
    | count =>
      refine PE.mono (pe_bm PySem.F.plainAttrs_list PySem.F.slot_list_count PySem.F.type_list_count (me_cnt (by omega)) (ho.rd c h3) (hs.st c h4) (plainB_of h2) (few_of h4 h5) h1 s1 (s2 _)) ?_
      rintro σ H Q ⟨Pn, M0, M, ρ, I, h⟩
      refine ⟨Pn, M0, M, ρ, I, RP.bind (show RP xc E H ((ev F true o ρ).bind _) _ from h) |>.imp fun d _ h v H1 s1 p => ?_⟩
      cases d with
      | list ds =>
        obtain ⟨a, ys, rfl, ha, ra⟩ := RpR.lst p
        exact ⟨.inl ⟨rfl, _, SqL.of ha⟩, run I s1 p h⟩
      | _ => exact (show False from h).elim
    | get =>
      refine PE.mono (pe_mG (Pd := fun x H => ∃ kvs M, RpR X.K X.prog X.w H M x (dictT kvs) ∨ RpR X.K X.prog X.w H M x (dictK kvs)) PySem.F.plainAttrs_dict PySem.F.slot_dict_get PySem.F.type_dict_get (fun I r q => get_ty (M := fun _ => False) I r q) (me_get (by omega)) (ho.rd c h3) (hs.st c h4) (plainB_of h2) (few_of h4 h5) h1 s1 (s2 _)) ?_
      rintro σ H Q ⟨Pn, M0, M, ρ, I, h⟩
      refine ⟨Pn, M0, M, ρ, I, RP.bind (show RP xc E H ((ev F true o ρ).bind _) _ from h) |>.imp fun d _ h v H1 s1 p => ?_⟩
      cases d with
      | dict kvs =>
        have go := run I s1 p h
        refine ⟨?_, go⟩
        by_cases ok : meOk .get (.dict kvs) = true
        · unfold meOk at ok
          split at ok <;> first | (rename_i e; cases e; done) | skip
          · rename_i e; cases e; exact ⟨_, M, .inl p⟩
          · rename_i e; cases e; exact ⟨_, M, .inr p⟩
          · cases ok
        · have h' : RP xc E H (if meOk .get (.dict kvs) = true then (evs F es ρ).bind fun xs => pmeth .get (.dict kvs) xs else .bad) (fun d => ∀ v H', Sm H H' → pst X.K X.prog X.w (.meth .get o es) H M H' v d → Q v H') := h
          rw [if_neg ok] at h'
          exact (show False from h').elim
      | _ => exact (show False from h).elim
    | items => rcases h0 with (h0 | h0) | h0 <;> cases h0
  · cases h

/-! ### what is still to be shown (the checker refuses it) -/
theorem sem_rev {a : Iv.E} (ha : Sem G F k xc N a) : Sem G F k xc N (.rev a) :=
  Sem.mk1 (fun _ => rfl) (fun {sc fs E X e'} c h => by unfold chkE at h; split at h <;> simp at h) fun _ _ h => by simp [chkB] at h
theorem sem_told {a : Iv.E} (ha : Sem { G with lam := false } F k xc N a) : Sem G F k xc N (.told a) :=
  Sem.mk1 (fun _ => rfl) (fun {sc fs E X e'} c h => by unfold chkE at h; split at h <;> simp at h) fun _ _ h => by simp [chkB] at h
theorem sem_srtItems {a : Iv.E} (ha : Sem G F k xc N a) : Sem G F k xc N (.srtItems a) :=
  Sem.mk1 (fun _ => rfl) (fun {sc fs E X e'} c h => by unfold chkE at h; split at h <;> simp at h) fun _ _ h => by simp [chkB] at h
theorem sem_d1 {a b : Iv.E} (ha : Sem G F k xc N a) (hb : Sem G F k xc N b) : Sem G F k xc N (.d1 a b) := by
  refine Sem.mk1 (fun _ => rfl) (fun {sc fs E X e'} c h => ?_) fun _ _ h => by simp [chkB] at h
  unfold chkE at h
  split at h
  · rename_i ke ve _
    simp only [Bool.and_eq_true] at h
    have hu := c.hu
    refine PE.mono (pe_d1 (by omega) (ha.ss c h.1) (hb.ss c h.2)) ?_
    rintro σ H Q ⟨Pn, M0, M, ρ, I, h⟩ p hp
    have s0 : Sm H (upd H p (DkO X.prog X.w p [])) := Sm.new hp
    have J := I.hide s0 (nn_of hp) ⟨_, upd_same, trivial⟩
    refine ⟨Pn, M0, _, ρ, J, RP.bind (show RP xc E (upd H p (DkO X.prog X.w p [])) ((ev F false a ρ).bind _) _ from h.sm s0) |>.imp fun kd _ h2 x H1 s1 pk => ?_⟩
    refine ⟨Pn, M0, _, ρ, J.sm s1, (h2.sm s1).bind.imp fun vd _ h3 y H2 s2 pv => ?_⟩
    by_cases ok : keyOk true kd = true
    · rw [if_pos ok] at h3
      obtain ⟨ds, n, rfl, hk, _⟩ := keyOk_t ok
      obtain ⟨b, us, rfl, _⟩ := RpR.tup (.inl pk)
      have hp2 : H2 p = some (DkO X.prog X.w p []) := s2.st _ _ (s1.st _ _ upd_same trivial) trivial
      refine ⟨_, p, [], [], _, n, b, rfl, rfl, hp2, .nil, hk, ok, pk.sm s2, by show 0 < sizeLine; decide, fun u ru nd => ?_⟩
      have kp := own_keep (o' := DkO X.prog X.w p (storedH [] n b u)) (M := fun a => M a ∨ a = p) hp2 trivial (.inr rfl)
      have sF : Sm H (upd H2 p (DkO X.prog X.w p (storedH [] n b u))) := ⟨fun q o e nt' => by
          have hq : q ≠ p := fun z => by subst z; rw [hp] at e; cases e
          rw [upd_ne hq]; exact ((s0.trans s1).trans s2).st q o e nt',
        fun t => RpO.tabs (K := X.K) (P := X.prog) (w := X.w) (M := fun a => M a ∨ a = p) (d := dictT []) (.inr (.inl ⟨[], [], rfl, hp2, .nil⟩)) (((s0.trans s1).trans s2).tb t)⟩
      exact h3 (.ref p) _ sF ⟨p, rfl, nn_of hp, .inr (.inl ⟨_, _, rfl, upd_same, (rpt_put hk ok (pk.sm s2) ru pv nd .nil).to kp fun _ z => .inl z⟩)⟩
    · rw [if_neg ok] at h3; exact h3.elim
  · cases h
theorem sem_dnew (tk : Bool) : Sem G F k xc N (.dnew tk) := by
  refine Sem.mk1 (fun _ => rfl) (fun {sc fs E X e'} c h => ?_) fun _ _ h => by simp [chkB] at h
  unfold chkE at h
  split at h
  · cases tk with
    | true =>
      refine PE.mono pe_dnewT ?_
      rintro σ H Q ⟨Pn, M0, M, ρ, I, h⟩ p hp
      exact h (.ref p) _ (Sm.new hp) ⟨p, rfl, nn_of hp, .inr (.inl ⟨[], [], rfl, upd_same, .nil⟩)⟩
    | false =>
      refine PE.mono pe_dnewK ?_
      rintro σ H Q ⟨Pn, M0, M, ρ, I, h⟩ p hp
      exact h (.ref p) _ (Sm.new hp) ⟨p, rfl, nn_of hp, .inr (.inr ⟨[], [], rfl, upd_same, .nil⟩)⟩
  · cases h
theorem sem_srtSet {a : Iv.E} (ha : Sem G F k xc N a) : Sem G F k xc N (.srtSet a) := by
  refine Sem.mk1 (fun _ => rfl) (fun {sc fs E X e'} c h => ?_) fun _ _ h => by simp [chkB] at h
  unfold chkE at h
  split at h
  · rename_i y _ z _ x _ _
    simp only [Bool.and_eq_true, decide_eq_true_eq] at h
    obtain ⟨⟨⟨⟨⟨e0, h1⟩, e1⟩, h2⟩, h3⟩, h4⟩ := h
    subst e0 e1
    obtain ⟨g1, g2, g3, g4⟩ := c.blt' h1
    obtain ⟨k1, k2, k3, k4⟩ := c.blt' h2
    refine PE.mono (pe_srtSet g1 g2 k1 k2 (ha.rd c h4) c.calm (star_of h3)) ?_
    rintro σ H Q ⟨Pn, M0, M, ρ, I, h⟩
    refine ⟨Pn, M0, M, ρ, I, RP.bind (show RP xc E H ((ev F true a ρ).bind _) _ from h) |>.imp fun d _ h v H1 s1 p => ?_⟩
    have fin : ∀ (ds : List PyData) (xs : List V), RpA X.K X.prog X.w H1 M xs ds → RP xc E H (match intsOf ds with | some ns => if ns.length ≤ 4000 then Iv.R.ok (PyData.list ((sortSet ns).map .int)) else .bad | none => .bad) (fun d => ∀ v H', Sm H H' → pst X.K X.prog X.w (.srtSet a) H M H' v d → Q v H') →
        ∃ ns : List Int, xs = ns.map V.int ∧ ns.length ≤ 4000 ∧ ∀ (out : List Int) (p : Addr) (H2 : Hp), (∀ b o, H1 b = some o → H2 b = some o) → out.Pairwise (· < ·) → (∀ k, k ∈ out ↔ k ∈ ns) → H2 p = none → Q (.ref p) (upd H2 p (.lst (out.map V.int))) := by
      intro ds xs ra hz
      cases e : intsOf ds with
      | none => rw [e] at hz; exact (show False from hz).elim
      | some ns =>
        rw [e] at hz
        have e2 := intsOf_eq e
        subst e2
        have e3 := ra.ints
        subst e3
        by_cases hl : ns.length ≤ 4000
        · have hz' : RP xc E H (if ns.length ≤ 4000 then Iv.R.ok (PyData.list ((sortSet ns).map .int)) else .bad) (fun d => ∀ v H', Sm H H' → pst X.K X.prog X.w (.srtSet a) H M H' v d → Q v H') := hz
          rw [if_pos hl] at hz'
          refine ⟨ns, rfl, hl, fun out p H2 keep hs hm hn => ?_⟩
          have eo : out = sortSet ns := inc_unique hs (sortSet_inc ns) fun k => by rw [hm k, mem_sortSet]
          subst eo
          have s2 : Sm H1 H2 := Sm.all keep
          exact hz' _ _ ((s1.trans s2).trans (Sm.new hn)) ⟨p, rfl, (s1.trans s2).nn (nn_of hn), .inl ⟨_, _, rfl, upd_same, RpA.ofInts _⟩⟩
        · have hz' : RP xc E H (if ns.length ≤ 4000 then Iv.R.ok (PyData.list ((sortSet ns).map .int)) else .bad) (fun d => ∀ v H', Sm H H' → pst X.K X.prog X.w (.srtSet a) H M H' v d → Q v H') := hz
          rw [if_neg hl] at hz'
          exact (show False from hz').elim
    cases d with
    | list ds =>
      obtain ⟨l, xs, rfl, ha', ra⟩ := RpR.lst p
      obtain ⟨ns, rfl, q1, q2⟩ := fin ds xs ra h
      exact ⟨l, ns, rfl, .inl (SqL.of ha'), q1, q2⟩
    | tuple ds =>
      obtain ⟨l, xs, rfl, ha', ra⟩ := RpR.tup p
      obtain ⟨ns, rfl, q1, q2⟩ := fin ds xs ra h
      exact ⟨l, ns, rfl, .inr (SqT.of ha'), q1, q2⟩
    | _ => exact (show False from h).elim
  · cases h
theorem sem_lenSet {a : Iv.E} (ha : Sem G F k xc N a) : Sem G F k xc N (.lenSet a) := by
  refine Sem.mk1 (fun _ => rfl) (fun {sc fs E X e'} c h => ?_) fun _ _ h => by simp [chkB] at h
  unfold chkE at h
  split at h
  · rename_i y _ z _ x _ _
    simp only [Bool.and_eq_true, decide_eq_true_eq] at h
    obtain ⟨⟨⟨⟨⟨e0, h1⟩, e1⟩, h2⟩, h3⟩, h4⟩ := h
    subst e0 e1
    obtain ⟨g1, g2, g3, g4⟩ := c.blt' h1
    obtain ⟨k1, k2, k3, k4⟩ := c.blt' h2
    refine PE.mono (pe_lenSet g1 g2 k1 k2 (ha.rd c h4) c.calm (star_of h3)) ?_
    rintro σ H Q ⟨Pn, M0, M, ρ, I, h⟩
    refine ⟨Pn, M0, M, ρ, I, RP.bind (show RP xc E H ((ev F true a ρ).bind _) _ from h) |>.imp fun d _ h v H1 s1 p => ?_⟩
    cases d with
    | list ds =>
      obtain ⟨l, xs, rfl, ha', ra⟩ := RpR.lst p
      cases e : intsOf ds with
      | none =>
        have h' : RP xc E H (match intsOf ds with | some ns => if ns.length ≤ 4000 then Iv.R.ok (PyData.int (sortSet ns).length) else .bad | none => .bad) (fun d => ∀ v H', Sm H H' → pst X.K X.prog X.w (.lenSet a) H M H' v d → Q v H') := h
        rw [e] at h'; exact (show False from h').elim
      | some ns =>
        have h' : RP xc E H (match intsOf ds with | some ns => if ns.length ≤ 4000 then Iv.R.ok (PyData.int (sortSet ns).length) else .bad | none => .bad) (fun d => ∀ v H', Sm H H' → pst X.K X.prog X.w (.lenSet a) H M H' v d → Q v H') := h
        rw [e] at h'
        have e2 := intsOf_eq e
        subst e2
        have e3 := ra.ints
        subst e3
        by_cases hl : ns.length ≤ 4000
        · have h2 : RP xc E H (if ns.length ≤ 4000 then Iv.R.ok (PyData.int (sortSet ns).length) else .bad) (fun d => ∀ v H', Sm H H' → pst X.K X.prog X.w (.lenSet a) H M H' v d → Q v H') := h'
          rw [if_pos hl] at h2
          refine ⟨l, ns, rfl, SqL.of ha', hl, fun out hn hm => ?_⟩
          have hp : out.Perm (sortSet ns) := (List.perm_ext_iff_of_nodup hn ((sortSet_inc ns).imp fun h => Int.ne_of_lt h)).mpr fun k => by rw [hm k, mem_sortSet]
          rw [hp.length_eq]
          exact h2 _ _ s1 (.int _)
        · have h2 : RP xc E H (if ns.length ≤ 4000 then Iv.R.ok (PyData.int (sortSet ns).length) else .bad) (fun d => ∀ v H', Sm H H' → pst X.K X.prog X.w (.lenSet a) H M H' v d → Q v H') := h'
          rw [if_neg hl] at h2
          exact (show False from h2).elim
    | _ => exact (show False from h).elim
  · cases h

/-! ### all -/
mutual
theorem semE (G : GI) (F : Str → List PyData → R PyData) (k : Nat) (xc : Nat → Value) (N : List Str) : ∀ e : Iv.E, Sem G F k xc N e
  | .c d => sem_c d
  | .v i => sem_v i
  | .g x d => sem_g x d
  | .bin op a b => sem_bin (semE G F k xc N a) (semE G F k xc N b)
  | .neg a => sem_neg (semE G F k xc N a)
  | .cmp op a b => sem_cmp (semE G F k xc N a) (semE G F k xc N b)
  | .chain o1 o2 a b c => sem_chain (semE G F k xc N a) (semE G F k xc N b) (semE G F k xc N c)
  | .and a b => sem_and (semE G F k xc N a) (semE G F k xc N b)
  | .or a b => sem_or (semE G F k xc N a) (semE G F k xc N b)
  | .not a => sem_not (semE G F k xc N a)
  | .ix a b => sem_ix (semE G F k xc N a) (semE G F k xc N b)
  | .sl a lo hi => sem_sl (semE G F k xc N a) (semOo G F k xc N lo) (semOo G F k xc N hi)
  | .rev a => sem_rev (semE G F k xc N a)
  | .tup es => sem_tup (semEs G F k xc N es)
  | .lst es => sem_lst (semEs G F k xc N es)
  | .dnew tk => sem_dnew tk
  | .d1 a b => sem_d1 (semE G F k xc N a) (semE G F k xc N b)
  | .comp t s c b vs => sem_comp (semRr G F k xc N s) (semCc G F k xc N c) (semE G F k xc N b)
  | .call x es => sem_call (semEs G F k xc N es)
  | .bi b es => sem_bi (semEs G F k xc N es)
  | .rng tp a => sem_rng (semE G F k xc N a)
  | .srtSet a => sem_srtSet (semE G F k xc N a)
  | .lenSet a => sem_lenSet (semE G F k xc N a)
  | .told a => sem_told (semE { G with lam := false } F k xc N a)
  | .srtItems a => sem_srtItems (semE G F k xc N a)
  | .meth m o es => sem_meth (semE G F k xc N o) (semEs G F k xc N es)
  | .isi a t => sem_isi (semE G F k xc N a)
  | .srtKey a i b => sem_srtKey (semE G F k xc N a) (semE { G with lam := false } F k xc N b)
theorem semEs (G : GI) (F : Str → List PyData → R PyData) (k : Nat) (xc : Nat → Value) (N : List Str) : ∀ es : Es, SemS G F k xc N es
  | .nil => sems_nil
  | .cons e es => sems_cons (semE G F k xc N e) (semEs G F k xc N es)
theorem semOo (G : GI) (F : Str → List PyData → R PyData) (k : Nat) (xc : Nat → Value) (N : List Str) : ∀ o : Oe, SemO G F k xc N o
  | .no => semo_no
  | .so e => semo_so (semE G F k xc N e)
theorem semCc (G : GI) (F : Str → List PyData → R PyData) (k : Nat) (xc : Nat → Value) (N : List Str) : ∀ o : Oe, SemC G F k xc N o
  | .no => semc_no
  | .so e => semc_so (semE G F k xc N e)
theorem semRr (G : GI) (F : Str → List PyData → R PyData) (k : Nat) (xc : Nat → Value) (N : List Str) : ∀ s : Src, SemR G F k xc N s
  | .e a => semr_e (semE G F k xc N a)
  | .own _ => fun _ h => by unfold chkS at h; cases h
  | .r1 a => semr_r1 (semE G F k xc N a)
  | .r2 a b => semr_r2 (semE G F k xc N a) (semE G F k xc N b)
  | .r3 a b c => semr_r3 (semE G F k xc N a) (semE G F k xc N b) (semE G F k xc N c)
  | .enum a => semr_enum (semE G F k xc N a)
  | .zip a b => semr_zip (semE G F k xc N a) (semE G F k xc N b)
end
end
end Iv
end

section
/-! Iv7: statements. -/
namespace Iv
open PySem L2 PyProof.Rows
variable [Tb]

/-! ### the text -/
def isComp : Expr → Bool
  | .ListComp .. => true
  | .SetComp .. => true
  | .DictComp .. => true
  | _ => false
def compOk : Expr → Bool
  | .ListComp _ _ _ _ => true
  | v => !isComp v
def isTupE : Expr → Bool
  | .Tuple .. => true
  | .List .. => true
  | _ => false
/-- the store of a comprehension to a name is exchanged with the letting go of its own names -/
def swaps (sc : Scope) (y : Str) (py : Pos) (scope : Scope) (pos : Pos) : Bool :=
  decide (sc.names.lookup y = some .local) && (py.line == pos.line) && !(scope.names.any fun (n, k) => n == y && (k == .local || k == .cell))

/-- the names that a pair of stores exchanges -/
def swNames (sc : Scope) (ts : List Expr) : List Str :=
  ts.filterMap fun
    | .Name id pos => if sc.names.lookup id == some .local && pos.line == (ts.head?.map (·.pos.line)).getD 0 then some id else none
    | _ => none
def swNone (sc : Scope) (ts vs : List Expr) : Bool := (swNames sc ts).length != ts.length || vs.all (foldedForSure 8)
def swAll (sc : Scope) (ts vs : List Expr) : Bool := (ts.length == 2 || ts.length == 3) && vs.length == ts.length && (swNames sc ts).length == ts.length && (swNames sc ts).eraseDups.length == ts.length && !vs.all (foldedForSure 8) && !vs.all (constantsAlone 8)
def unpOk (sc : Scope) (ts : List Expr) (v : Expr) : Bool := match v with
  | .Tuple vs _ _ => swNone sc ts vs
  | .List .. => false
  | _ => true
/-- like ones put together -/
def chkGrp (G : GI) (N : List Str) (sc : Scope) (fi xi si gi : Nat) (n t : E) : Stmt → Bool
  | .For (.Name x _) (.Call (.Name rg _) [ne] [] _) [.Assign [.Name sm _] (.ListComp (.Name g1 _) [⟨.Name g2 _, .Name fd _, [te], 0⟩] scope _) _,
      .If (.Compare (.Call (.Name ln _) [.Name sm2 _] [] _) [.Gt] [.Constant (.int 0) _ _] _)
        [.Expr (.Call (.Attribute (.Subscript (.Name sm3 _) (.Constant (.int 0) _ _) _) ap1 a1) [.Name x2 _] [] c1) _]
        [.Expr (.Call (.Attribute (.Name fd2 _) ap2 a2) [.List [.Name x3 _] _] [] c2) _] _] [] _ =>
      (decide (N[xi]? = some x) && isLoc sc x && isVis sc x && okN x && decide (x2 = x) && decide (x3 = x)) &&
      (decide (N[fi]? = some fd) && isVis sc fd && okN fd && decide (fd2 = fd)) &&
      (decide (N[si]? = some sm) && isLoc sc sm && isVis sc sm && okN sm && decide (sm2 = sm) && decide (sm3 = sm)) &&
      (decide (N[gi]? = some g2) && decide (g1 = g2) && isLoc (relS scope sc) g2 && isVis (relS scope sc) g2 && okN g2 && (decide (scope.names.lookup g2 = some .cell) || decide ((relS scope sc).names.lookup g2 = some .local))) &&
      (decide (rg = "range") && isBlt G sc rg && decide (ln = "len") && isBlt G sc ln && notStar ne && chkE G N n sc ne) &&
      (blkC N sc scope (ownOf N [gi]) && chkB G N t (relS scope sc) te) &&
      (decide (ap1 = "append") && decide (ap2 = "append") && (a1.endLine == c1.line) && (a2.endLine == c2.line)) &&
      (decide (fi ≠ xi) && decide (fi ≠ si) && decide (fi ≠ gi) && decide (xi ≠ si) && decide (xi ≠ gi) && decide (si ≠ gi))
  | _ => false
def chk0 (G : GI) (N : List Str) (sc : Scope) : S → Stmt → Bool
  | .set i e, st => match st with
    | .Assign [.Name x p] v _ => decide (N[i]? = some x) && isLoc sc x && chkE G N e sc v && compOk v
    | _ => false
  | .setO i e, st => match st with
    | .Assign [.Name x p] v _ => fr e && decide (N[i]? = some x) && isLoc sc x && chkE G N e sc v && compOk v
    | _ => false
  | .unp t e, st => match st with
    | .Assign [.Tuple ts kk tp] v _ => chkT N sc (fun _ => true) none t (.Tuple ts kk tp) && chkE G N e sc v && !isComp v && unpOk sc ts v
    | _ => false
  | .par i j a b, st => match st with
    | .Assign [.Tuple [.Name x px, .Name y py] kt pt] (.Tuple vs k2 pt2) _ => decide (N[i]? = some x) && decide (N[j]? = some y) && decide (i ≠ j) && decide (sc.names.lookup x = some .local) && decide (sc.names.lookup y = some .local)
        && chkEs G N (.cons a (.cons b .nil)) sc vs && swAll sc [.Name x px, .Name y py] vs
    | _ => false
  | .par3 i j l a b d, st => match st with
    | .Assign [.Tuple [.Name x px, .Name y py, .Name z pz] kt pt] (.Tuple vs k2 pt2) _ => decide (N[i]? = some x) && decide (N[j]? = some y) && decide (N[l]? = some z) && decide (i ≠ j) && decide (i ≠ l) && decide (j ≠ l)
        && decide (sc.names.lookup x = some .local) && decide (sc.names.lookup y = some .local) && decide (sc.names.lookup z = some .local)
        && chkEs G N (.cons a (.cons b (.cons d .nil))) sc vs && swAll sc [.Name x px, .Name y py, .Name z pz] vs
    | _ => false
  | .swp i (.v p) (.v q), st => match st with
    | .Assign [.Tuple [.Subscript (.Name x1 _) (.Name p1 _) s1, .Subscript (.Name x2 _) (.Name q1 _) s2] kt pt] (.Tuple [.Subscript (.Name x3 _) (.Name q2 _) s3, .Subscript (.Name x4 _) (.Name p2 _) s4] k2 pt2) _ =>
        decide (N[i]? = some x1) && isVis sc x1 && okN x1 && decide (x2 = x1) && decide (x3 = x1) && decide (x4 = x1) && decide (N[p]? = some p1) && isVis sc p1 && okN p1 && decide (p2 = p1) && decide (N[q]? = some q1) && isVis sc q1 && okN q1 && decide (q2 = q1)
    | _ => false
  | .grp fi xi si gi n t, st => chkGrp G N sc fi xi si gi n t st
  | .nev, _ => true
  | .setIx i ke e, st => match st with
    | .Assign [.Subscript (.Name x _) k _] v _ => decide (N[i]? = some x) && isVis sc x && okN x && chkE G N ke sc k && chkE G N e sc v && !isComp v
    | _ => false
  | .app i e, st => match st with
    | .Expr (.Call (.Attribute (.Name x _) nm apos) [v] [] cpos) _ => decide (nm = "append") && decide (N[i]? = some x) && isVis sc x && okN x && notStar v && chkE G N e sc v && (apos.endLine == cpos.line)
    | _ => false
  | .ext i e, st => match st with
    | .Expr (.Call (.Attribute (.Name x _) nm apos) [v] [] cpos) _ => decide (nm = "extend") && decide (N[i]? = some x) && isVis sc x && okN x && notStar v && chkE G N e sc v && (apos.endLine == cpos.line)
    | _ => false
  | .pop0 t i, st => match st with
    | .Assign [.Tuple ts kk tp] (.Call (.Attribute (.Name x _) nm apos) [.Constant (.int 0) _ _] [] cpos) _ => decide (nm = "pop") && decide (N[i]? = some x) && isVis sc x && okN x && chkT N sc (fun _ => true) none t (.Tuple ts kk tp) && (apos.endLine == cpos.line)
    | _ => false
  | .ret e, st => match st with
    | .Return (some v) _ => chkE G N e sc v
    | _ => false
  | .retN, st => match st with
    | .Return none _ => true
    | _ => false
  | .cont, st => match st with
    | .Continue _ => true
    | _ => false
  | _, _ => false
mutual
def chkL (G : GI) (N : List Str) (sc : Scope) : S → List Stmt → Bool
  | .seq a b, l => match l with
    | st :: (r :: rs) => chkSt G N sc a st && chkL G N sc b (r :: rs)
    | _ => false
  | .pass, l => match l with
    | [] => true
    | _ => false
  | .frz i s, l => match l with
    | [st] => chkSt G N sc s st
    | _ => false
  | .set i e, l => match l with
    | [st] => chk0 G N sc (.set i e) st
    | _ => false
  | .setO i e, l => match l with
    | [st] => chk0 G N sc (.setO i e) st
    | _ => false
  | .unp t e, l => match l with
    | [st] => chk0 G N sc (.unp t e) st
    | _ => false
  | .par i j a b, l => match l with
    | [st] => chk0 G N sc (.par i j a b) st
    | _ => false
  | .par3 i j k a b d, l => match l with
    | [st] => chk0 G N sc (.par3 i j k a b d) st
    | _ => false
  | .swp i a b, l => match l with
    | [st] => chk0 G N sc (.swp i a b) st
    | _ => false
  | .grp fi xi si gi n t, l => match l with
    | [st] => chk0 G N sc (.grp fi xi si gi n t) st
    | _ => false
  | .nev, l => match l with
    | [st] => chk0 G N sc .nev st
    | _ => false
  | .setIx i a b, l => match l with
    | [st] => chk0 G N sc (.setIx i a b) st
    | _ => false
  | .app i e, l => match l with
    | [st] => chk0 G N sc (.app i e) st
    | _ => false
  | .ext i e, l => match l with
    | [st] => chk0 G N sc (.ext i e) st
    | _ => false
  | .pop0 t i, l => match l with
    | [st] => chk0 G N sc (.pop0 t i) st
    | _ => false
  | .iff c a b, l => match l with
    | [st] => (match st with
      | .If ce la lb _ => chkB G N c sc ce && chkL G N sc a la && chkL G N sc b lb
      | _ => false)
    | _ => false
  | .whl c b, l => match l with
    | [st] => (match st with
      | .While ce lb [] _ => chkB G N c sc ce && chkL G N sc b lb
      | _ => false)
    | _ => false
  | .for_ t s b, l => match l with
    | [st] => (match st with
      | .For tg iter lb [] _ => chkT N sc (fun _ => true) none t tg && chkS G N s sc tg iter && notSet iter && chkL G N sc b lb
      | _ => false)
    | _ => false
  | .ret e, l => match l with
    | [st] => chk0 G N sc (.ret e) st
    | _ => false
  | .retN, l => match l with
    | [st] => chk0 G N sc .retN st
    | _ => false
  | .rai c, l => match l with
    | [st] => chk0 G N sc (.rai c) st
    | _ => false
  | .exp e, l => match l with
    | [st] => chk0 G N sc (.exp e) st
    | _ => false
  | .cont, l => match l with
    | [st] => chk0 G N sc .cont st
    | _ => false
def chkSt (G : GI) (N : List Str) (sc : Scope) : S → Stmt → Bool
  | .frz _ s, st => chkSt G N sc s st
  | .iff c a b, st => match st with
    | .If ce la lb _ => chkB G N c sc ce && chkL G N sc a la && chkL G N sc b lb
    | _ => false
  | .whl c b, st => match st with
    | .While ce lb [] _ => chkB G N c sc ce && chkL G N sc b lb
    | _ => false
  | .for_ t s b, st => match st with
    | .For tg iter lb [] _ => chkT N sc (fun _ => true) none t tg && chkS G N s sc tg iter && notSet iter && chkL G N sc b lb
    | _ => false
  | .set i e, st => chk0 G N sc (.set i e) st
  | .setO i e, st => chk0 G N sc (.setO i e) st
  | .unp t e, st => chk0 G N sc (.unp t e) st
  | .par i j a b, st => chk0 G N sc (.par i j a b) st
  | .par3 i j l a b d, st => chk0 G N sc (.par3 i j l a b d) st
  | .swp i a b, st => chk0 G N sc (.swp i a b) st
  | .grp fi xi si gi n t, st => chk0 G N sc (.grp fi xi si gi n t) st
  | .nev, st => chk0 G N sc .nev st
  | .setIx i k e, st => chk0 G N sc (.setIx i k e) st
  | .app i e, st => chk0 G N sc (.app i e) st
  | .ext i e, st => chk0 G N sc (.ext i e) st
  | .pop0 t i, st => chk0 G N sc (.pop0 t i) st
  | .ret e, st => chk0 G N sc (.ret e) st
  | .retN, st => chk0 G N sc (.retN) st
  | .cont, st => chk0 G N sc (.cont) st
  | .rai c, st => chk0 G N sc (.rai c) st
  | .exp e, st => chk0 G N sc (.exp e) st
  | .pass, _ => false
  | .seq _ _, _ => false
end

/-! ### ends -/
/-- what is kept where a def is left -/
structure Ez (Pn : Addr → HO → Prop) (H : Hp) : Prop where
  pin : ∀ a o, Pn a o → H a = some o
  tb : LamX.Tabs Tb.T H
theorem SIv.ez {K : PySem.W.Frag} {P : Program} {w : World} {Pn : Addr → HO → Prop} {M0 M : Addr → Prop} {σ : L2.St} {H : Hp} {ρ : Env} (I : SIv K P w Pn M0 M σ H ρ) : Ez Pn H := ⟨I.pin, I.tb⟩
section
variable (K : PySem.W.Frag) (P : Program) (w : World) (xc : Nat → Value) (E : XK)
def Gd (Pn : Addr → HO → Prop) (M0 : Addr → Prop) (D : Ends) : Fl → Prop
  | .nx ρ => ∀ M σ H, SIv K P w Pn M0 M σ H ρ → D.nx σ H
  | .ct ρ => ∀ M σ H, SIv K P w Pn M0 M σ H ρ → D.ct σ H
  | .bk ρ => ∀ M σ H, SIv K P w Pn M0 M σ H ρ → D.bk σ H
  | .rt d => ∀ v H, Ez Pn H → Rp K P w H M0 v d → D.rt v H
  | .exc c => ∀ H, Ez Pn H → E (xc c) none H
  | .bad => False
def tEx (f : Env → Fl) : TS := fun D σ H => ∃ Pn M0 M ρ, SIv K P w Pn M0 M σ H ρ ∧ Gd K P w xc E Pn M0 D (f ρ)
end

section
variable {K : PySem.W.Frag} {P : Program} {w : World} {xc : Nat → Value} {E : XK} {Pn : Addr → HO → Prop} {M0 M : Addr → Prop} {D D' : Ends} {σ : L2.St} {H : Hp} {ρ : Env}
theorem Gd.imp {fl : Fl} (h : Gd K P w xc E Pn M0 D fl) (h1 : ∀ σ H, D.nx σ H → D'.nx σ H) (h2 : ∀ v H, D.rt v H → D'.rt v H) (h3 : ∀ σ H, D.bk σ H → D'.bk σ H) (h4 : ∀ σ H, D.ct σ H → D'.ct σ H) : Gd K P w xc E Pn M0 D' fl := by
  cases fl with
  | nx ρ => exact fun M σ H I => h1 _ _ (h M σ H I)
  | ct ρ => exact fun M σ H I => h4 _ _ (h M σ H I)
  | bk ρ => exact fun M σ H I => h3 _ _ (h M σ H I)
  | rt d => exact fun v H p r => h2 _ _ (h v H p r)
  | exc c => exact h
  | bad => exact h
/-- what an expression's answer is to be, from what the statement's end is to be -/
theorem Gd.rp {α : Type} {r : R α} {f : α → Fl} (I : SIv K P w Pn M0 M σ H ρ) (h : Gd K P w xc E Pn M0 D (r.fl f)) {k : α → Prop} (q : ∀ a, r = .ok a → Gd K P w xc E Pn M0 D (f a) → k a) : RP xc E H r k := by
  cases r with
  | ok a => exact q a rfl h
  | exc c => exact fun H' s => h H' (I.sm s).ez
  | bad => exact h
theorem PS.mono {X : Cx} {st : Stmt} {t t' : TS} (h : PS X st t) (q : ∀ D σ H, t' D σ H → t D σ H) : PS X st t' := ⟨fun pins s σ H D I hh => h.run pins s σ H D I (q D σ H hh)⟩
theorem PSs.mono {X : Cx} {st : List Stmt} {t t' : TS} (h : PSs X st t) (q : ∀ D σ H, t' D σ H → t D σ H) : PSs X st t' := ⟨fun pins s σ H D I hh => h.run pins s σ H D I (q D σ H hh)⟩
end

/-- where a statement stands -/
structure CxtS (G : GI) (F : Str → List PyData → R PyData) (k : Nat) (xc : Nat → Value) (N : List Str) (sc : Scope) (E : XK) (X : Cx) : Prop extends Cxt G F k xc N sc (fun _ => true) E X where
  pown : PassesOwn (model X.prog X.w) X.A X.env X.xe
  takes : Takes X (fun cls d _ H => E cls d H)
  kind : sc.kind = .function

/-- THE MEANING of an S -/
structure SemT (G : GI) (F : Str → List PyData → R PyData) (k : Nat) (xc : Nat → Value) (N : List Str) (s : S) : Prop where
  one : ∀ {sc : Scope} {E : XK} {X : Cx} {st : Stmt}, CxtS G F k xc N sc E X → chkSt G N sc s st = true → PS X st (tEx X.K X.prog X.w xc E (ex F s))
  all : ∀ {sc : Scope} {E : XK} {X : Cx} {l : List Stmt}, CxtS G F k xc N sc E X → chkL G N sc s l = true → PSs X l (tEx X.K X.prog X.w xc E (ex F s))

section
variable {G : GI} {F : Str → List PyData → R PyData} {k : Nat} {xc : Nat → Value} {N : List Str}
theorem sw_eq {elt : Expr} {gs : List Comprehension} {scope : Scope} {pos py : Pos} {y : Str} {l : Nat} {env : PySem.Env} (hk : env.scope.kind = .function) :
    swapsWith (.ListComp elt gs scope pos) (some (.Name y py)) l env = pure (swaps env.scope y py scope pos) := by
  have hb : env.blockKind = .function := by unfold Env.blockKind; rw [hk]; rfl
  unfold swapsWith swaps
  simp only [hb, Expr.pos, Env.kindOf]
  have e : (List.lookup y env.scope.names == some NameKind.local) = decide (List.lookup y env.scope.names = some NameKind.local) := by
    by_cases q : List.lookup y env.scope.names = some NameKind.local
    · rw [q]; rfl
    · rw [decide_eq_false q]
      exact beq_eq_false_iff_ne.mpr q
  rw [e]
  rfl
theorem sw_no {v : Expr} {t : Option Expr} {l : Nat} {env : PySem.Env} (h : isComp v = false) : swapsWith v t l env = pure false := by
  cases v <;> first | rfl | cases h
theorem sw_no2 {ts vs : List Expr} {kk k2 : Nat} {tp p2 : Pos} {env : PySem.Env} (hk : env.scope.kind = .function) (h : swNone env.scope ts vs = true) : swappedStores [.Tuple ts kk tp] (.Tuple vs k2 p2) env = pure none := by
  have hb : env.blockKind = .function := by unfold Env.blockKind; rw [hk]; rfl
  unfold swappedStores
  simp only [hb]
  split
  · rfl
  · split
    · rfl
    · split
      · rfl
      · split
        · rfl
        · rename_i a b c d
          exfalso
          unfold swNone at h
          rw [Bool.or_eq_true] at h
          rcases h with h | h
          · exact c (by show ((swNames env.scope ts).length != ts.length || _) = true; rw [h]; rfl)
          · exact d h
def isStar : Expr → Bool
  | .Starred .. => true
  | _ => false
theorem sw_all {ts vs : List Expr} {kk k2 : Nat} {tp p2 : Pos} {env : PySem.Env} (hk : env.scope.kind = .function) (hs : vs.any isStar = false) (h : swAll env.scope ts vs = true) : swappedStores [.Tuple ts kk tp] (.Tuple vs k2 p2) env = pure (some (swNames env.scope ts)) := by
  have hb : env.blockKind = .function := by unfold Env.blockKind; rw [hk]; rfl
  unfold swAll at h
  simp only [Bool.and_eq_true, Bool.not_eq_true', beq_iff_eq] at h
  obtain ⟨⟨⟨⟨⟨h1, h2⟩, h3⟩, h4⟩, h5⟩, h6⟩ := h
  unfold swappedStores
  simp only [hb]
  split
  · rename_i a
    exfalso
    rw [h1, h2] at a
    simp at a
  · split
    · rename_i a b
      exact absurd (hs.symm.trans b) Bool.false_ne_true
    · split
      · rename_i a b d
        exfalso
        have d' : ((swNames env.scope ts).length != ts.length || (swNames env.scope ts).eraseDups.length != (swNames env.scope ts).length) = true := d
        rw [h3, h4] at d'
        simp at d'
      · split
        · rename_i a b d e
          rw [h5] at e; cases e
        · split
          · rename_i a b d e f
            rw [h6] at f; cases f
          · rfl
theorem unp_none {ts : List Expr} {v : Expr} {kk : Nat} {tp : Pos} {env : PySem.Env} (hk : env.scope.kind = .function) (h : unpOk env.scope ts v = true) : swappedStores [.Tuple ts kk tp] v env = pure none := by
  unfold unpOk at h
  split at h
  · exact sw_no2 hk h
  · cases h
  · rename_i h1 h2
    cases v <;> first | rfl | exact (h1 _ _ _ rfl).elim | exact (h2 _ _ rfl).elim
theorem sem_asg {i : Nat} {e : Iv.E} {sc : Scope} {E : XK} {X : Cx} {x : Str} {p pos : Pos} {v : Expr} (c : CxtS G F k xc N sc E X) (h1 : N[i]? = some x) (h2 : isLoc sc x = true) (h3 : chkE G N e sc v = true)
    (h4 : compOk v = true) : PS X (.Assign [.Name x p] v pos) (fun D σ H => tEv X.K X.prog X.w xc E (ev F false e) (pst X.K X.prog X.w e) σ H (fun y H1 => D.nx (σ.set i (some y)) H1)) := by
  have hN : X.N.Nodup := by rw [c.names]; exact c.nd
  have hi : X.N[i]? = some x := by rw [c.names]; exact h1
  have hx : Loc X.env.scope x := by rw [c.scope]; exact isLoc_of h2
  have hf : X.fn x = true ∨ X.env.scope.names.lookup x = some .local := .inl (c.fnb x rfl)
  by_cases hc : isComp v = false
  · exact PS.mono (ps_set hN hi hx ((semE G F k xc N e).st c.toCxt h3) (sw_no hc) hf) fun D σ H z => z
  · unfold compOk at h4
    split at h4
    case h_2 => simp only [Bool.not_eq_true'] at h4; exact (hc h4).elim
    rename_i elt gs scope lpos
    have hsw := sw_eq (elt := elt) (gs := gs) (scope := scope) (pos := lpos) (py := p) (y := x) (l := pos.line) (env := X.env) (by rw [c.scope]; exact c.kind)
    cases hs : swaps X.env.scope x p scope lpos with
    | false =>
      rw [hs] at hsw
      exact PS.mono (ps_set hN hi hx ((semE G F k xc N e).st c.toCxt h3) hsw hf) fun D σ H z => z
    | true =>
      rw [hs] at hsw
      have hl : X.env.scope.names.lookup x = some .local := by
        unfold swaps at hs
        simp only [Bool.and_eq_true, decide_eq_true_eq] at hs
        exact hs.1.1
      cases e with
      | comp t s o e vs =>
        unfold chkE at h3
        split at h3
        · rename_i elt' tg iter ifs scope' pos' heq
          cases heq
          simp only [Bool.and_eq_true] at h3
          obtain ⟨⟨⟨⟨⟨q1, q2⟩, q3⟩, q4⟩, q5⟩, q6⟩ := h3
          refine PS.mono (ps_setLc (own := ownOf N vs) (g := gEv X.K X.prog X.w (some vs) t) (tt := tEvB X.K X.prog X.w xc E0 (evc F o)) (te := tEv X.K X.prog X.w xc E0 (ev F false e) (pS X.K X.prog X.w)) c.calm hN hi hl hsw
            (semrc q3 (semRr G F k xc N s) c.toCxt) (by rw [c.names, c.scope]; exact blkOk_by q1) (fun s H C cl fp => pg_t (c.toCxt.blk s H _ C cl fp) q2) (fun s H C cl fp => semCc G F k xc N o (c.toCxt.blk s H _ C cl fp) q4)
            (fun s H C cl fp => (semE G F k xc N e).ss (c.toCxt.blk s H _ C cl fp) q5) (set_of q6)) ?_
          intro D σ H z
          rw [ownOf_snd]
          exact comp_run (Q := fun y H1 => D.nx (σ.set i (some y)) H1) z
        · cases h3
      | _ => simp [chkE] at h3
theorem sem_set0 {i : Nat} {e : Iv.E} {sc : Scope} {E : XK} {X : Cx} {st : Stmt} (c : CxtS G F k xc N sc E X) (h : chkSt G N sc (.set i e) st = true) : PS X st (tEx X.K X.prog X.w xc E (ex F (.set i e))) := by
  unfold chkSt at h
  simp only [chk0] at h
  split at h
  · rename_i x p v pos
    simp only [Bool.and_eq_true, decide_eq_true_eq] at h
    obtain ⟨⟨⟨h1, h2⟩, h3⟩, h4⟩ := h
    refine PS.mono (sem_asg c h1 h2 h3 h4) ?_
    rintro D σ H ⟨Pn, M0, M, ρ, I, z⟩
    exact ⟨Pn, M0, M, ρ, I, Gd.rp I z fun d _ g v H1 s1 p => g M _ _ ((I.sm s1).set (pst.pS I.mh p))⟩
  · cases h
theorem sem_setO0 {i : Nat} {e : Iv.E} {sc : Scope} {E : XK} {X : Cx} {st : Stmt} (c : CxtS G F k xc N sc E X) (h : chkSt G N sc (.setO i e) st = true) : PS X st (tEx X.K X.prog X.w xc E (ex F (.setO i e))) := by
  unfold chkSt at h
  simp only [chk0] at h
  split at h
  · rename_i x p v pos
    simp only [Bool.and_eq_true, decide_eq_true_eq] at h
    obtain ⟨⟨⟨⟨h0, h1⟩, h2⟩, h3⟩, h4⟩ := h
    refine PS.mono (sem_asg c h1 h2 h3 h4) ?_
    rintro D σ H ⟨Pn, M0, M, ρ, I, z⟩
    refine ⟨Pn, M0, M, ρ, I, Gd.rp I z fun d _ g v H1 s1 p => ?_⟩
    unfold pst at p
    rw [if_pos h0] at p
    obtain ⟨q, rfl, hq, ho⟩ := p
    rw [if_pos ho.isOwn] at g
    exact g _ _ _ (I.setO s1 hq ho)
  · cases h
theorem sem_unp0 {t : T} {e : Iv.E} {sc : Scope} {E : XK} {X : Cx} {st : Stmt} (c : CxtS G F k xc N sc E X) (h : chkSt G N sc (.unp t e) st = true) : PS X st (tEx X.K X.prog X.w xc E (ex F (.unp t e))) := by
  unfold chkSt at h
  simp only [chk0] at h
  split at h
  · rename_i ts kk tp v pos
    simp only [Bool.and_eq_true, Bool.not_eq_true'] at h
    obtain ⟨⟨⟨h1, h2⟩, h3⟩, h4⟩ := h
    refine PS.mono (ps_asg ((semE G F k xc N e).ss c.toCxt h2) (pg_t c.toCxt h1) (by unfold swapsWithSole; exact sw_no h3) (unp_none (by rw [c.scope]; exact c.kind) (by rw [c.scope]; exact h4))) ?_
    rintro D σ H ⟨Pn, M0, M, ρ, I, z⟩
    refine ⟨Pn, M0, M, ρ, I, Gd.rp I z fun d _ g v H1 s1 p => ?_⟩
    cases hb : bindT t d ρ with
    | none => rw [hb] at g; exact (show False from g).elim
    | some ρ1 =>
      rw [hb] at g
      exact ⟨Pn, M0, M, ρ, d, ρ1, I.sm s1, p, hb, fun σ' I' _ => g _ _ _ I'⟩
  · cases h
theorem sem_app0 {i : Nat} {e : Iv.E} {sc : Scope} {E : XK} {X : Cx} {st : Stmt} (c : CxtS G F k xc N sc E X) (h : chkSt G N sc (.app i e) st = true) : PS X st (tEx X.K X.prog X.w xc E (ex F (.app i e))) := by
  unfold chkSt at h
  simp only [chk0] at h
  split at h
  · rename_i x xp nm apos v cpos pos
    simp only [Bool.and_eq_true, decide_eq_true_eq] at h
    obtain ⟨⟨⟨⟨⟨⟨e0, h1⟩, h2⟩, h3⟩, h4⟩, h5⟩, h6⟩ := h
    subst e0
    obtain ⟨n1, n2, _⟩ := okN_of h3
    have hv : PE X (.Name x xp) (tVar i) := pe_var (by rw [c.names]; exact h1) (by rw [c.scope]; exact isVis_of h2) n1 n2
    refine PS.mono (ps_expr (pe_bm PySem.F.plainAttrs_list PySem.F.slot_list_append PySem.F.type_list_append mt_append hv (pa_cons ((semE G F k xc N e).ss c.toCxt h5) pa_nil (star_of h4)) rfl
      (by rw [star_of h4]; rfl) h6 (star_of h4) rfl)) ?_
    rintro D σ H ⟨Pn, M0, M, ρ, I, z⟩
    unfold ex at z
    split at z
    · rename_i xs ho
      obtain ⟨a, q1, q2, q3, q4, q5⟩ := I.own _ _ ho
      have q5' := q5
      rcases q5 with ⟨vs, ds, e1, ha, ra⟩ | ⟨_, _, e1, _⟩ | ⟨_, _, e1, _⟩
      · cases e1
        refine ⟨.ref a, q1, .inl ⟨rfl, _, SqL.of ha⟩, Pn, M0, M, ρ, I, Gd.rp I z fun d _ g y H1 s1 p => ?_⟩
        split at g
        · rename_i hl
          have ha1 := s1.st _ _ ha trivial
          have ra1 := ra.sm s1
          refine ⟨a, vs, y, rfl, rfl, ha1, by rw [ra1.length]; exact Nat.lt_of_lt_of_le hl lim_le, ?_⟩
          exact g _ _ _ ((I.sm s1).wr ho q1 (.inl ⟨_, _, rfl, upd_same, RpA.snocD ha1 q2 ra1 p⟩))
        · exact (show False from g).elim
      · cases e1
      · cases e1
    · exact (show False from z).elim
  · cases h
theorem RpA.appD {K : PySem.W.Frag} {P : Program} {w : World} {H : Hp} {M : Addr → Prop} {D : Addr} {acc us : List V} {ys zs : List PyData} (hD : H D = some (.lst acc)) (m : M D)
    (h : RpA K P w H M acc ys) (hy : RpA K P w H M us zs) : RpA K P w (upd H D (.lst (acc ++ us))) M (acc ++ us) (ys ++ zs) := by
  have keep : ∀ b o, H b = some o → nt o → (¬ M b ∨ isFix o) → upd H D (.lst (acc ++ us)) b = some o := fun b o e _ z => by
    have hb : b ≠ D := fun q => by
      subst q
      rcases z with z | z
      · exact z m
      · rw [hD] at e; cases e; exact z
    rw [upd_ne hb]; exact e
  exact (h.to keep fun _ z => .inl z).append (hy.to keep fun _ z => .inl z)
theorem sem_ext0 {i : Nat} {e : Iv.E} {sc : Scope} {E : XK} {X : Cx} {st : Stmt} (c : CxtS G F k xc N sc E X) (h : chkSt G N sc (.ext i e) st = true) : PS X st (tEx X.K X.prog X.w xc E (ex F (.ext i e))) := by
  unfold chkSt at h
  simp only [chk0] at h
  split at h
  · rename_i x xp nm apos v cpos pos
    simp only [Bool.and_eq_true, decide_eq_true_eq] at h
    obtain ⟨⟨⟨⟨⟨⟨e0, h1⟩, h2⟩, h3⟩, h4⟩, h5⟩, h6⟩ := h
    subst e0
    obtain ⟨n1, n2, _⟩ := okN_of h3
    have hv : PE X (.Name x xp) (tVar i) := pe_var (by rw [c.names]; exact h1) (by rw [c.scope]; exact isVis_of h2) n1 n2
    refine PS.mono (ps_expr (pe_bm PySem.F.plainAttrs_list PySem.F.slot_list_extend PySem.F.type_list_extend mt_extend hv (pa_cons ((semE G F k xc N e).ss c.toCxt h5) pa_nil (star_of h4)) rfl
      (by rw [star_of h4]; rfl) h6 (star_of h4) rfl)) ?_
    rintro D σ H ⟨Pn, M0, M, ρ, I, z⟩
    unfold ex at z
    split at z
    · rename_i xs ho
      obtain ⟨a, q1, q2, q3, q4, q5⟩ := I.own _ _ ho
      rcases q5 with ⟨vs, ds, e1, ha, ra⟩ | ⟨_, _, e1, _⟩ | ⟨_, _, e1, _⟩
      · cases e1
        refine ⟨.ref a, q1, .inl ⟨rfl, _, SqL.of ha⟩, Pn, M0, M, ρ, I, Gd.rp I z fun d _ g y H1 s1 p => ?_⟩
        split at g
        · rename_i ys
          split at g
          · rename_i hl
            have ha1 := s1.st _ _ ha trivial
            have ra1 := ra.sm s1
            cases p with
            | lst hb nb rb =>
              refine ⟨a, _, vs, _, rfl, rfl, ha1, hb, by rw [ra1.length, rb.length]; exact Nat.le_of_lt (Nat.lt_of_lt_of_le hl lim_le), ?_⟩
              exact g _ _ _ ((I.sm s1).wr ho q1 (.inl ⟨_, _, rfl, upd_same, RpA.appD ha1 q2 ra1 rb⟩))
          · exact (show False from g).elim
        · exact (show False from g).elim
      · cases e1
      · cases e1
    · exact (show False from z).elim
  · cases h
theorem sem_pop00 {t : T} {i : Nat} {sc : Scope} {E : XK} {X : Cx} {st : Stmt} (c : CxtS G F k xc N sc E X) (h : chkSt G N sc (.pop0 t i) st = true) : PS X st (tEx X.K X.prog X.w xc E (ex F (.pop0 t i))) := by
  unfold chkSt at h
  simp only [chk0] at h
  split at h
  · rename_i ts kk tp x xp nm apos ck cp cpos pos
    simp only [Bool.and_eq_true, decide_eq_true_eq] at h
    obtain ⟨⟨⟨⟨⟨e0, h1⟩, h2⟩, h3⟩, h4⟩, h6⟩ := h
    subst e0
    obtain ⟨n1, n2, _⟩ := okN_of h3
    have hv : PE X (.Name x xp) (tVar i) := pe_var (by rw [c.names]; exact h1) (by rw [c.scope]; exact isVis_of h2) n1 n2
    refine PS.mono (ps_asg (pe_bm PySem.F.plainAttrs_list PySem.F.slot_list_pop PySem.F.type_list_pop mt_popAt hv (pa_cons pe_int pa_nil) rfl rfl h6 rfl rfl) (pg_t c.toCxt h4) rfl rfl) ?_
    rintro D σ H ⟨Pn, M0, M, ρ, I, z⟩
    unfold ex at z
    split at z
    · rename_i x0 xs ho
      obtain ⟨a, q1, q2, q3, q4, q5⟩ := I.own _ _ ho
      rcases q5 with ⟨vs, ds, e1, ha, ra⟩ | ⟨_, _, e1, _⟩ | ⟨_, _, e1, _⟩
      · cases e1
        cases ra with
        | @cons v0 vs' _ _ r0 rr =>
          refine ⟨.ref a, q1, .inl ⟨rfl, _, SqL.of ha⟩, a, v0 :: vs', 0, 0, v0, rfl, rfl, ha, by decide, by decide, ?_, rfl, ?_⟩
          · show seqIndex? 0 (vs'.length + 1) = some 0
            unfold seqIndex?
            simp
          · cases hb : bindT t x0 (ρ.set i (Slot.own (.list xs))) with
            | none => rw [hb] at z; exact (show False from z).elim
            | some ρ1 =>
              rw [hb] at z
              have keep : ∀ b o, H b = some o → nt o → (¬ M b ∨ isFix o) → upd H a (.lst vs') b = some o := fun b o e _ z => by
                have hb : b ≠ a := fun q => by
                  subst q
                  rcases z with z | z
                  · exact z q2
                  · rw [ha] at e; cases e; exact z
                rw [upd_ne hb]; exact e
              refine ⟨Pn, M0, M, _, x0, ρ1, I.wr ho q1 (.inl ⟨vs', xs, rfl, upd_same, rr.to keep fun _ z => .inl z⟩), r0.to keep fun _ z => .inl z, hb, fun σ' I' _ => z _ _ _ I'⟩
      · cases e1
      · cases e1
    · exact (show False from z).elim
  · cases h
/-! a, b = x, y -/
theorem notStar_any {e : Expr} (h : notStar e = true) : isStar e = false := by
  cases e <;> first | rfl | cases h
theorem sem_par0 {i j : Nat} {a b : Iv.E} {sc : Scope} {E : XK} {X : Cx} {st : Stmt} (c : CxtS G F k xc N sc E X) (h : chkSt G N sc (.par i j a b) st = true) : PS X st (tEx X.K X.prog X.w xc E (ex F (.par i j a b))) := by
  unfold chkSt at h
  simp only [chk0] at h
  split at h
  · rename_i x px y py kt pt vs k2 pt2 pos
    simp only [Bool.and_eq_true, decide_eq_true_eq] at h
    obtain ⟨⟨⟨⟨⟨⟨h1, h2⟩, h3⟩, h4⟩, h5⟩, h6⟩, h7⟩ := h
    have hv : ∃ ae be, vs = [ae, be] ∧ notStar ae = true ∧ notStar be = true := by
      have h6' := h6
      unfold chkEs at h6'
      split at h6'
      · rename_i ae r
        simp only [Bool.and_eq_true] at h6'
        obtain ⟨⟨n1, _⟩, h6'⟩ := h6'
        unfold chkEs at h6'
        split at h6'
        · rename_i be r2
          simp only [Bool.and_eq_true] at h6'
          obtain ⟨⟨n2, _⟩, h6'⟩ := h6'
          unfold chkEs at h6'
          split at h6'
          · exact ⟨_, _, rfl, n1, n2⟩
          · cases h6'
        · cases h6'
      · cases h6'
    obtain ⟨ae, be, rfl, n1, n2⟩ := hv
    have hst : [ae, be].any isStar = false := by
      rw [List.any_cons, List.any_cons, List.any_nil, notStar_any n1, notStar_any n2]; rfl
    have hnm : swNames sc [.Name x px, .Name y py] = [x, y] := by
      have h7' := h7
      unfold swAll at h7'
      simp only [Bool.and_eq_true, beq_iff_eq] at h7'
      have hl := h7'.1.1.1.2
      by_cases q : (py.line == px.line) = true
      · unfold swNames
        simp [List.filterMap, h4, h5, q, Expr.pos]
      · exfalso
        unfold swNames at hl
        simp [List.filterMap, h4, h5, Expr.pos] at hl
        simp at q
        rw [if_neg q] at hl
        simp at hl
    have hw := sw_all (kk := kt) (k2 := k2) (tp := pt) (p2 := pt2) (env := X.env) (ts := [.Name x px, .Name y py]) (vs := [ae, be]) (by rw [c.scope]; exact c.kind) hst (by rw [c.scope]; exact h7)
    rw [c.scope, hnm] at hw
    refine PS.mono (ps_par c.calm (by rw [c.names]; exact c.nd) (by rw [c.names]; exact h1) (by rw [c.names]; exact h2) h3 (by rw [c.scope]; exact h4) (by rw [c.scope]; exact h5) ((semEs G F k xc N (.cons a (.cons b .nil))).st c.toCxt h6) hw (by unfold swapsWithSole; exact sw_no rfl)) ?_
    rintro D σ H ⟨Pn, M0, M, ρ, I, z⟩
    have z' : Gd X.K X.prog X.w xc E Pn M0 D ((evs F (.cons a (.cons b .nil)) ρ).fl fun ds => match ds with | [x, y] => .nx ((ρ.set i (.val x)).set j (.val y)) | _ => .bad) := by
      have e : ex F (.par i j a b) ρ = (evs F (.cons a (.cons b .nil)) ρ).fl fun ds => match ds with | [x, y] => .nx ((ρ.set i (.val x)).set j (.val y)) | _ => .bad := by
        rw [ex, evs, evs, evs]
        cases ev F false a ρ <;> first | rfl | (cases ev F false b ρ <;> rfl)
      rw [← e]; exact z
    refine ⟨Pn, M0, M, ρ, I, Gd.rp I z' fun ds _ g vs H1 s1 p => ?_⟩
    split at g
    · obtain ⟨v, u, rfl, p1, p2⟩ := p.two
      exact ⟨v, u, rfl, g _ _ _ (((I.sm s1).set p1).set p2)⟩
    · exact (show False from g).elim
  · cases h
theorem sem_par30 {i j l : Nat} {a b d : Iv.E} {sc : Scope} {E : XK} {X : Cx} {st : Stmt} (c : CxtS G F k xc N sc E X) (h : chkSt G N sc (.par3 i j l a b d) st = true) : PS X st (tEx X.K X.prog X.w xc E (ex F (.par3 i j l a b d))) := by
  unfold chkSt at h
  simp only [chk0] at h
  split at h
  · rename_i x px y py w pw kt pt vs k2 pt2 pos
    simp only [Bool.and_eq_true, decide_eq_true_eq] at h
    obtain ⟨⟨⟨⟨⟨⟨⟨⟨⟨⟨h1, h2⟩, h3⟩, i1⟩, i2⟩, i3⟩, h4⟩, h5⟩, h5'⟩, h6⟩, h7⟩ := h
    have hv : ∃ ae be de, vs = [ae, be, de] ∧ notStar ae = true ∧ notStar be = true ∧ notStar de = true := by
      have h6' := h6
      unfold chkEs at h6'
      split at h6'
      · rename_i ae r
        simp only [Bool.and_eq_true] at h6'
        obtain ⟨⟨n1, _⟩, h6'⟩ := h6'
        unfold chkEs at h6'
        split at h6'
        · rename_i be r2
          simp only [Bool.and_eq_true] at h6'
          obtain ⟨⟨n2, _⟩, h6'⟩ := h6'
          unfold chkEs at h6'
          split at h6'
          · rename_i de r3
            simp only [Bool.and_eq_true] at h6'
            obtain ⟨⟨n3, _⟩, h6'⟩ := h6'
            unfold chkEs at h6'
            split at h6'
            · exact ⟨_, _, _, rfl, n1, n2, n3⟩
            · cases h6'
          · cases h6'
        · cases h6'
      · cases h6'
    obtain ⟨ae, be, de, rfl, n1, n2, n3⟩ := hv
    have hst : [ae, be, de].any isStar = false := by
      rw [List.any_cons, List.any_cons, List.any_cons, List.any_nil, notStar_any n1, notStar_any n2, notStar_any n3]; rfl
    have hnm : swNames sc [.Name x px, .Name y py, .Name w pw] = [x, y, w] := by
      have h7' := h7
      unfold swAll at h7'
      simp only [Bool.and_eq_true, beq_iff_eq] at h7'
      have hl := h7'.1.1.1.2
      unfold swNames at hl ⊢
      simp [List.filterMap, h4, h5, h5', Expr.pos] at hl ⊢
      by_cases q : py.line = px.line <;> by_cases q2 : pw.line = px.line <;> simp [q, q2] at hl ⊢
    have hw := sw_all (kk := kt) (k2 := k2) (tp := pt) (p2 := pt2) (env := X.env) (ts := [.Name x px, .Name y py, .Name w pw]) (vs := [ae, be, de]) (by rw [c.scope]; exact c.kind) hst (by rw [c.scope]; exact h7)
    rw [c.scope, hnm] at hw
    refine PS.mono (ps_par3 c.calm (by rw [c.names]; exact c.nd) (by rw [c.names]; exact h1) (by rw [c.names]; exact h2) (by rw [c.names]; exact h3) i1 i2 i3 (by rw [c.scope]; exact h4) (by rw [c.scope]; exact h5) (by rw [c.scope]; exact h5') ((semEs G F k xc N (.cons a (.cons b (.cons d .nil)))).st c.toCxt h6) hw (by unfold swapsWithSole; exact sw_no rfl)) ?_
    rintro D σ H ⟨Pn, M0, M, ρ, I, z⟩
    have z' : Gd X.K X.prog X.w xc E Pn M0 D ((evs F (.cons a (.cons b (.cons d .nil))) ρ).fl fun ds => match ds with | [x, y, w] => .nx (((ρ.set i (.val x)).set j (.val y)).set l (.val w)) | _ => .bad) := by
      have e : ex F (.par3 i j l a b d) ρ = (evs F (.cons a (.cons b (.cons d .nil))) ρ).fl fun ds => match ds with | [x, y, w] => .nx (((ρ.set i (.val x)).set j (.val y)).set l (.val w)) | _ => .bad := by
        rw [ex, evs, evs, evs, evs]
        cases ev F false a ρ <;> first | rfl | (cases ev F false b ρ <;> first | rfl | (cases ev F false d ρ <;> rfl))
      rw [← e]; exact z
    refine ⟨Pn, M0, M, ρ, I, Gd.rp I z' fun ds _ g vs H1 s1 p => ?_⟩
    split at g
    · cases p with
      | cons p1 r =>
        obtain ⟨v, u, rfl, p2, p3⟩ := r.two
        exact ⟨_, v, u, rfl, g _ _ _ ((((I.sm s1).set p1).set p2).set p3)⟩
    · exact (show False from g).elim
  · cases h
theorem sem_nev0 {sc : Scope} {E : XK} {X : Cx} {st : Stmt} (c : CxtS G F k xc N sc E X) (h : chkSt G N sc .nev st = true) : PS X st (tEx X.K X.prog X.w xc E (ex F .nev)) := by
  refine PS.mono ps_never ?_
  rintro D σ H ⟨Pn, M0, M, ρ, I, z⟩
  exact (show False from z).elim
theorem sem_swp0 {i : Nat} {a b : Iv.E} {sc : Scope} {E : XK} {X : Cx} {st : Stmt} (c : CxtS G F k xc N sc E X) (h : chkSt G N sc (.swp i a b) st = true) : PS X st (tEx X.K X.prog X.w xc E (ex F (.swp i a b))) := by
  have hab : ∃ p q, a = .v p ∧ b = .v q := by
    unfold chkSt at h
    cases a with
    | v p => cases b with
      | v q => exact ⟨p, q, rfl, rfl⟩
      | _ => simp [chk0] at h
    | _ => simp [chk0] at h
  obtain ⟨p, q, rfl, rfl⟩ := hab
  · unfold chkSt at h
    simp only [chk0] at h
    split at h
    · rename_i x1 _ p1 _ s1 x2 _ q1 _ s2 kt pt x3 _ q2 _ s3 x4 _ p2 _ s4 k2 pt2 pos
      simp only [Bool.and_eq_true, decide_eq_true_eq] at h
      obtain ⟨⟨⟨⟨⟨⟨⟨⟨⟨⟨⟨⟨⟨h1, h2⟩, h3⟩, e1⟩, e2⟩, e3⟩, h4⟩, h5⟩, h6⟩, e4⟩, h7⟩, h8⟩, h9⟩, e5⟩ := h
      replace e1 := e1.symm
      replace e2 := e2.symm
      replace e3 := e3.symm
      replace e4 := e4.symm
      replace e5 := e5.symm
      subst e1 e2 e3 e4 e5
      obtain ⟨n1, n2, _⟩ := okN_of h3
      obtain ⟨n3, n4, _⟩ := okN_of h6
      obtain ⟨n5, n6, _⟩ := okN_of h9
      have vx : ∀ {pp : Pos}, PE X (.Name x1 pp) (tVar i) := fun {pp} => pe_var (by rw [c.names]; exact h1) (by rw [c.scope]; exact isVis_of h2) n1 n2
      have vp : ∀ {pp : Pos}, PE X (.Name p1 pp) (tVar p) := fun {pp} => pe_var (by rw [c.names]; exact h4) (by rw [c.scope]; exact isVis_of h5) n3 n4
      have vq : ∀ {pp : Pos}, PE X (.Name q1 pp) (tVar q) := fun {pp} => pe_var (by rw [c.names]; exact h7) (by rw [c.scope]; exact isVis_of h8) n5 n6
      refine PS.mono (ps_asg (pe_tup (pa_cons (pe_ix ix_list vx vq (fun _ _ => rfl)) (pa_cons (pe_ix ix_list vx vp (fun _ _ => rfl)) pa_nil)))
        (pg_tup c.calm (pgs_cons (pg_sub vx vp set_list) (pgs_cons (pg_sub vx vq set_list) pgs_nil))) (by unfold swapsWithSole; exact sw_no rfl) (sw_no2 (by rw [c.scope]; exact c.kind) (by unfold swNone swNames; rfl))) ?_
      rintro D σ H ⟨Pn, M0, M, ρ, I, z⟩
      unfold ex at z
      split at z
      · rename_i xs ho
        obtain ⟨l, q1, q2, q3, q4, q5⟩ := I.own _ _ ho
        rcases q5 with ⟨vs, ds, e1, ha, ra⟩ | ⟨_, _, e1, _⟩ | ⟨_, _, e1, _⟩
        · cases e1
          have z' : Gd X.K X.prog X.w xc E Pn M0 D ((rdS true ρ[p]?).fl fun x => (rdS true ρ[q]?).fl fun y => (match x, y with
            | .int p, .int q => (match L2.ixN xs.length p, L2.ixN xs.length q with
              | some j, some l => (match xs[j]?, xs[l]? with | some u, some v => .nx (ρ.set i (.own (.list ((xs.set j v).set l u)))) | _, _ => .bad)
              | _, _ => .bad)
            | _, _ => .bad)) := z
          have rd : ∀ {j : Nat} {f : PyData → Fl}, Gd X.K X.prog X.w xc E Pn M0 D ((rdS true ρ[j]?).fl f) → ∃ d v, rdS true ρ[j]? = .ok d ∧ σ[j]? = some (some v) ∧ RpR X.K X.prog X.w H M v d ∧ Gd X.K X.prog X.w xc E Pn M0 D (f d) := by
            intro j f g
            cases e : rdS true ρ[j]? with
            | ok d =>
              rw [e] at g
              obtain ⟨v, r1, r2⟩ := I.rd e
              exact ⟨d, v, rfl, r1, r2, g⟩
            | exc cc => exfalso; unfold rdS at e; split at e <;> cases e
            | bad => rw [e] at g; exact (show False from g).elim
          obtain ⟨d1, v1, hd1, r1, r2, z1⟩ := rd z'
          obtain ⟨d2, v2, hd2, r3, r4, z2⟩ := rd z1
          cases d1 <;> cases d2 <;> first | exact (show False from z2).elim | skip
          rename_i ip iq
          have e1 := r2.int
          have e2 := r4.int
          subst e1 e2
          have z3 : Gd X.K X.prog X.w xc E Pn M0 D (match L2.ixN xs.length ip, L2.ixN xs.length iq with
              | some j, some l => (match xs[j]?, xs[l]? with | some u, some v => Fl.nx (ρ.set i (.own (.list ((xs.set j v).set l u)))) | _, _ => .bad)
              | _, _ => .bad) := z2
          cases hj : L2.ixN xs.length ip with
          | none => rw [hj] at z3; exact (show False from z3).elim
          | some j =>
            cases hl : L2.ixN xs.length iq with
            | none => rw [hj, hl] at z3; exact (show False from z3).elim
            | some m =>
              rw [hj, hl] at z3
              cases hu : xs[j]? with
              | none => simp only [hu] at z3; exact (show False from z3).elim
              | some u =>
                cases hv : xs[m]? with
                | none => simp only [hu, hv] at z3; exact (show False from z3).elim
                | some v =>
                  simp only [hu, hv] at z3
                  obtain ⟨wu, gu, ru⟩ := ra.get hu
                  obtain ⟨wv, gv, rv⟩ := ra.get hv
                  have lv : vs.length = xs.length := ra.length
                  have aj : atI vs ip = some wu := by unfold atI; rw [lv, hj]; exact gu
                  have am : atI vs iq = some wv := by unfold atI; rw [lv, hl]; exact gv
                  refine ⟨.ref l, q1, .int iq, r3, l, vs, iq, wv, rfl, rfl, SqL.of ha, am, .ref l, q1, .int ip, r1, l, vs, ip, wu, rfl, rfl, SqL.of ha, aj, by show 2 ≤ sizeLine; decide, fun tt ht => ?_⟩
                  have ha1 : upd H tt (.tup [wv, wu]) l = some (.lst vs) := by rw [upd_ne (ne_of_none ha ht)]; exact ha
                  refine ⟨tt, [wv, wu], rfl, SqT.of upd_same, rfl, wv, [wu], rfl, .ref l, q1, .int ip, r1, l, vs, ip, j, rfl, rfl, ha1, by rw [lv]; exact hj, ?_⟩
                  refine ⟨wu, [], rfl, .ref l, q1, .int iq, r3, l, vs.set j wv, iq, m, rfl, rfl, upd_same, by rw [List.length_set, lv]; exact hl, rfl, ?_⟩
                  have sm : Sm H (upd H tt (.tup [wv, wu])) := Sm.new ht
                  have I1 := I.sm sm
                  have kp1 := own_keep (o' := .lst (vs.set j wv)) ha1 trivial q2
                  have w1 := I1.wr (o' := .lst (vs.set j wv)) (d' := .list (xs.set j v)) ho q1 (.inl ⟨_, _, rfl, upd_same, (RpA.set j (ra.sm sm) (rv.sm sm)).to kp1 fun _ z => .inl z⟩)
                  have ho2 : (ρ.set i (.own (.list (xs.set j v))))[i]? = some (.own (.list (xs.set j v))) := by
                    have := (List.getElem?_eq_some_iff.mp ho).1
                    rw [List.getElem?_set_self this]
                  have ha2 : upd (upd H tt (.tup [wv, wu])) l (.lst (vs.set j wv)) l = some (.lst (vs.set j wv)) := upd_same
                  have kp2 := own_keep (o' := .lst ((vs.set j wv).set m wu)) ha2 trivial q2
                  have w2 := w1.wr (o' := .lst ((vs.set j wv).set m wu)) (d' := .list ((xs.set j v).set m u)) ho2 q1 (.inl ⟨_, _, rfl, upd_same, (RpA.set m (RpA.set j (((ra.sm sm).to kp1 fun _ z => .inl z)) (((rv.sm sm).to kp1 fun _ z => .inl z))) (((ru.sm sm).to kp1 fun _ z => .inl z))).to kp2 fun _ z => .inl z⟩)
                  rw [List.set_set] at w2
                  exact z3 _ _ _ w2
        · cases e1
        · cases e1
      · exact (show False from z).elim
    · cases h
/-! ### like ones together -/
section
variable {K : PySem.W.Frag} {P : Program} {w : World} {Pn : Addr → HO → Prop} {M0 M M' : Addr → Prop} {σ : L2.St} {H : Hp} {ρ : Env}
theorem set_nul {i j : Nat} {s : Slot} (h : (ρ.set i Slot.nul)[j]? = some s) (hs : s ≠ .nul) : i ≠ j ∧ ρ[j]? = some s := by
  by_cases e : i = j
  · subst e
    rw [List.getElem?_set] at h
    simp only [if_true] at h
    split at h
    · cases h; exact (hs rfl).elim
    · cases h
  · rw [List.getElem?_set_ne e] at h; exact ⟨e, h⟩
theorem SIv.hideR (I : SIv K P w Pn M0 M σ H ρ) (i : Nat) : SIv K P w Pn M0 M σ H (ρ.set i .nul) where
  len := by rw [List.length_set]; exact I.len
  val := fun j d e => I.val j d (set_nul e fun z => nomatch z).2
  own := fun j d e => I.own j d (set_nul e fun z => nomatch z).2
  inj := fun j k d e a h1 h2 => I.inj j k d e a (set_nul h1 fun z => nomatch z).2 (set_nul h2 fun z => nomatch z).2
  mh := I.mh
  m0 := I.m0
  pin := I.pin
  mp := I.mp
  pnt := I.pnt
  tb := I.tb
theorem SIv.junk (I : SIv K P w Pn M0 M σ H ρ) {i : Nat} {v : Option V} (h : ρ[i]? = some .nul) : SIv K P w Pn M0 M (σ.set i v) H ρ where
  len := by rw [List.length_set]; exact I.len
  val := fun j d e => by
    have hij : i ≠ j := fun z => by subst z; rw [h] at e; cases e
    rw [List.getElem?_set_ne hij]; exact I.val j d e
  own := fun j d e => by
    have hij : i ≠ j := fun z => by subst z; rw [h] at e; cases e
    rw [List.getElem?_set_ne hij]; exact I.own j d e
  inj := fun j k d e a h1 h2 h3 h4 => by
    have hij : i ≠ j := fun z => by subst z; rw [h] at h1; cases h1
    have hik : i ≠ k := fun z => by subst z; rw [h] at h2; cases h2
    rw [List.getElem?_set_ne hij] at h3
    rw [List.getElem?_set_ne hik] at h4
    exact I.inj j k d e a h1 h2 h3 h4
  mh := I.mh
  m0 := I.m0
  pin := I.pin
  mp := I.mp
  pnt := I.pnt
  tb := I.tb
theorem SIv.less (I : SIv K P w Pn M0 M σ H ρ) (hn : ∀ (i : Nat) (d : PyData), ρ[i]? ≠ some (Slot.own d)) (s : ∀ a, M' a → M a) (m0 : ∀ a, M0 a → M' a) : SIv K P w Pn M0 M' σ H ρ where
  len := I.len
  val := fun j d e => let ⟨v, h1, h2⟩ := I.val j d e; ⟨v, h1, h2.sub s⟩
  own := fun j d e => (hn j d e).elim
  inj := fun j k d e a h1 => (hn j d h1).elim
  mh := fun a z => I.mh a (s a z)
  m0 := m0
  pin := I.pin
  mp := fun a z => I.mp a (s a z)
  pnt := I.pnt
  tb := I.tb
theorem SIv.wrH (I : SIv K P w Pn M0 M σ H ρ) (hn : ∀ (i : Nat) (d : PyData), ρ[i]? ≠ some (Slot.own d)) {a : Addr} {xs ys : List V} (ma : M a) (np : ∀ o, ¬ Pn a o) (ha : H a = some (.lst xs)) : SIv K P w Pn M0 M σ (upd H a (.lst ys)) ρ where
  len := I.len
  val := fun j d e => let ⟨v, h1, h2⟩ := I.val j d e; ⟨v, h1, h2.to (own_keep ha trivial ma) fun _ z => .inl z⟩
  own := fun j d e => (hn j d e).elim
  inj := fun j k d e a h1 => (hn j d h1).elim
  mh := fun b z => by
    by_cases e : b = a
    · subst e; exact ⟨_, upd_same, trivial⟩
    · obtain ⟨o, h1, h2⟩ := I.mh b z
      exact ⟨o, by rw [upd_ne e]; exact h1, h2⟩
  m0 := I.m0
  pin := fun b o p => by
    have e : b ≠ a := fun z => by subst z; exact np o p
    rw [upd_ne e]; exact I.pin b o p
  mp := I.mp
  pnt := I.pnt
  tb := tabs_lst ha I.tb
end
/-- what is put where, by truths -/
def putI (i : Int) : List Bool → List (List Int) → List (List Int)
  | f :: fs, k :: ks => if f then (k ++ [i]) :: ks else k :: putI i fs ks
  | _, _ => [[i]]
def selA : List Bool → List Addr → List Addr
  | f :: fs, p :: ps => if f then p :: selA fs ps else selA fs ps
  | _, _ => []
abbrev gD (k : List Int) : List PyData := k.map .int
theorem put_flags {t : List PyData → R Bool} {i : Int} : ∀ {ks : List (List Int)} {r : List (List PyData)}, grpPut t (.int i) (ks.map gD) = .ok r →
    ∃ fs : List Bool, fs.length = ks.length ∧ (∀ (j : Nat) (k : List Int) (f : Bool), ks[j]? = some k → fs[j]? = some f → t (gD k) = .ok f) ∧ r = (putI i fs ks).map gD
  | [], r, h => by
    rw [List.map_nil, grpPut] at h
    cases h
    exact ⟨[], rfl, fun j k f e => by simp at e, rfl⟩
  | k :: ks, r, h => by
    rw [List.map_cons, grpPut] at h
    cases q : t (gD k) with
    | exc c => rw [q] at h; cases h
    | bad => rw [q] at h; cases h
    | ok f =>
      rw [q, R.bind_ok] at h
      cases q2 : grpPut t (.int i) (ks.map gD) with
      | exc c => rw [q2] at h; cases h
      | bad => rw [q2] at h; cases h
      | ok r' =>
        rw [q2, R.bind_ok] at h
        obtain ⟨fs, h1, h2, h3⟩ := put_flags q2
        refine ⟨f :: fs, by rw [List.length_cons, List.length_cons, h1], fun j k' f' e1 e2 => ?_, ?_⟩
        · cases j with
          | zero => cases e1; cases e2; exact q
          | succ j => exact h2 j k' f' e1 e2
        · have h' := R.ok.inj h
          rw [← h', h3]
          cases f with
          | true => show (gD k ++ [.int i]) :: ks.map gD = ((k ++ [i]) :: ks).map gD; rw [List.map_cons]; show _ = (k ++ [i]).map _ :: _; rw [List.map_append]; rfl
          | false => rfl
theorem sel_first : ∀ (fs : List Bool) (ps : List Addr), fs.length = ps.length →
    (selA fs ps = [] ∧ ∀ (i : Int) (ks : List (List Int)), ks.length = fs.length → putI i fs ks = ks ++ [[i]]) ∨
    ∃ j q r, selA fs ps = q :: r ∧ ps[j]? = some q ∧ ∀ (i : Int) (ks : List (List Int)), ks.length = fs.length → ∃ k, ks[j]? = some k ∧ putI i fs ks = ks.set j (k ++ [i])
  | [], [], _ => .inl ⟨rfl, fun i ks h => by
    cases ks with
    | nil => rfl
    | cons a b => cases h⟩
  | [], _ :: _, h => by cases h
  | _ :: _, [], h => by cases h
  | true :: fs, p :: ps, h => .inr ⟨0, p, selA fs ps, rfl, rfl, fun i ks hk => by
    cases ks with
    | nil => cases hk
    | cons k ks => exact ⟨k, rfl, rfl⟩⟩
  | false :: fs, p :: ps, h => by
    rcases sel_first fs ps (by simpa using h) with ⟨h1, h2⟩ | ⟨j, q, r, h1, h2, h3⟩
    · refine .inl ⟨h1, fun i ks hk => ?_⟩
      cases ks with
      | nil => cases hk
      | cons k ks =>
        show k :: putI i fs ks = _
        rw [h2 i ks (by simpa using hk)]; rfl
    · refine .inr ⟨j + 1, q, r, h1, h2, fun i ks hk => ?_⟩
      cases ks with
      | nil => cases hk
      | cons k ks =>
        obtain ⟨k', e1, e2⟩ := h3 i ks (by simpa using hk)
        refine ⟨k', e1, ?_⟩
        show k :: putI i fs ks = _
        rw [e2]; rfl
theorem sel_snoc : ∀ (fs : List Bool) (ps : List Addr) (f : Bool) (p : Addr), fs.length = ps.length → selA (fs ++ [f]) (ps ++ [p]) = selA fs ps ++ (if f then [p] else [])
  | [], [], f, p, _ => by cases f <;> rfl
  | [], _ :: _, _, _, h => by cases h
  | _ :: _, [], _, _, h => by cases h
  | b :: fs, q :: ps, f, p, h => by
    have ih := sel_snoc fs ps f p (by simpa using h)
    cases b with
    | true => show q :: selA (fs ++ [f]) (ps ++ [p]) = q :: selA fs ps ++ _; rw [ih]; rfl
    | false => exact ih
theorem sel_len : ∀ (fs : List Bool) (ps : List Addr), (selA fs ps).length ≤ ps.length
  | [], _ => Nat.zero_le _
  | _ :: _, [] => Nat.le_refl _
  | b :: fs, p :: ps => by
    have := sel_len fs ps
    cases b with
    | true => show (p :: selA fs ps).length ≤ _; rw [List.length_cons, List.length_cons]; omega
    | false => show (selA fs ps).length ≤ _; rw [List.length_cons]; omega
/-- the groups as they stand -/
structure Grp (H : Hp) (M M0 : Addr → Prop) (Pn : Addr → HO → Prop) (a : Addr) (ps : List Addr) (ks : List (List Int)) (i : Nat) : Prop where
  len : ps.length = ks.length
  few : ks.length ≤ i
  at_ : H a = some (.lst (ps.map .ref))
  ma : M a ∧ ¬ M0 a ∧ ∀ o, ¬ Pn a o
  mp : ∀ p ∈ ps, M p ∧ ¬ M0 p ∧ (∀ o, ¬ Pn p o) ∧ p ≠ a
  nd : ps.Nodup
  st : ∀ (j : Nat) (p : Addr) (k : List Int), ps[j]? = some p → ks[j]? = some k → H p = some (.lst (k.map V.int)) ∧ k.length ≤ i
theorem Grp.sm {H H' : Hp} {M M0 : Addr → Prop} {Pn : Addr → HO → Prop} {a : Addr} {ps : List Addr} {ks : List (List Int)} {i : Nat} (g : Grp H M M0 Pn a ps ks i) (s : Sm H H') : Grp H' M M0 Pn a ps ks i where
  len := g.len
  few := g.few
  at_ := s.st _ _ g.at_ trivial
  ma := g.ma
  mp := g.mp
  nd := g.nd
  st := fun j p k h1 h2 => ⟨s.st _ _ (g.st j p k h1 h2).1 trivial, (g.st j p k h1 h2).2⟩
theorem sem_grp0 {fi xi si gi : Nat} {n t : Iv.E} {sc : Scope} {E : XK} {X : Cx} {st : Stmt} (c : CxtS G F k xc N sc E X) (h : chkSt G N sc (.grp fi xi si gi n t) st = true) : PS X st (tEx X.K X.prog X.w xc E (ex F (.grp fi xi si gi n t))) := by
  unfold chkSt at h
  simp only [chk0] at h
  unfold chkGrp at h
  split at h
  · rename_i x xp rg rp ne rpos sm smp g1 gp1 g2 gp2 fd fp te scope lp apos ln lnp sm2 sm2p lnpos cc czp cpos sm3 sm3p ck czp2 subp ap1 a1 x2 x2p c1 e1p fd2 fd2p ap2 a2 x3 x3p lstp c2 e2p ifp fpos
    simp only [Bool.and_eq_true, decide_eq_true_eq] at h
    obtain ⟨⟨⟨⟨⟨⟨⟨⟨⟨⟨⟨⟨x1, x2'⟩, x3'⟩, x4⟩, x5⟩, x6⟩, ⟨⟨⟨f1, f2⟩, f3⟩, f4⟩⟩, ⟨⟨⟨⟨⟨m1, m2⟩, m3⟩, m4⟩, m5⟩, m6⟩⟩, ⟨⟨⟨⟨⟨g1', g2'⟩, g3'⟩, g4'⟩, g5'⟩, g6'⟩⟩, ⟨⟨⟨⟨⟨r1, r2⟩, r3⟩, r4⟩, r5⟩, r6⟩⟩, ⟨b1, b2⟩⟩, ⟨⟨⟨p1, p2⟩, p3⟩, p4⟩⟩, ⟨⟨⟨⟨⟨d1, d2⟩, d3⟩, d4⟩, d5⟩, d6⟩⟩ := h
    subst r1 r3 p1 p2
    replace x5 := x5.symm
    replace x6 := x6.symm
    replace f4 := f4.symm
    replace m5 := m5.symm
    replace m6 := m6.symm
    subst x5 x6 f4 m5 m6 g2'
    obtain ⟨nx1, nx2, _⟩ := okN_of x4
    obtain ⟨nf1, nf2, _⟩ := okN_of f3
    obtain ⟨nm1, nm2, _⟩ := okN_of m4
    obtain ⟨ng1, ng2, _⟩ := okN_of g5'
    obtain ⟨gr1, gr2, _, _⟩ := c.toCxt.blt' r2
    obtain ⟨gl1, gl2, _, _⟩ := c.toCxt.blt' r4
    have hN : X.N.Nodup := by rw [c.names]; exact c.nd
    have vx : ∀ {pp : Pos}, PE X (.Name x pp) (tVar xi) := fun {pp} => pe_var (by rw [c.names]; exact x1) (by rw [c.scope]; exact isVis_of x3') nx1 nx2
    have vf : ∀ {pp : Pos}, PE X (.Name fd pp) (tVar fi) := fun {pp} => pe_var (by rw [c.names]; exact f1) (by rw [c.scope]; exact isVis_of f2) nf1 nf2
    have vs : ∀ {pp : Pos}, PE X (.Name sm pp) (tVar si) := fun {pp} => pe_var (by rw [c.names]; exact m1) (by rw [c.scope]; exact isVis_of m3) nm1 nm2
    have S1 : PS X (.Assign [.Name sm smp] (.ListComp (.Name g1 gp1) [⟨.Name g1 gp2, .Name fd fp, [te], 0⟩] scope lp) apos) (tAsg (tLc (iList X.K (tVar fi)) (gName gi) (tEvB X.K X.prog X.w xc E0 (evc F (.so t))) (tVar gi) [gi]) (gName si)) := by
      have hi : X.N[si]? = some sm := by rw [c.names]; exact m1
      have ok : BlkOk X.N X.env.scope scope (ownOf N [gi]) := by rw [c.names, c.scope]; exact blkOk_by b1
      have hg : ∀ (s : Shared) (H : Hp) (C : Addr) (cl : List (Str × Addr)) (fp' : List Addr), PG (X.blk s H scope (compEnvC scope cl C X.env) fp') (.Name g1 gp2) (gName gi) := fun s H C cl fp' => by
        have cb := c.toCxt.blk s H scope C cl fp'
        refine pg_name (by rw [cb.names]; exact c.nd) (by rw [cb.names]; exact g1') (by rw [cb.scope]; exact isLoc_of g3') ?_
        rw [Bool.or_eq_true, decide_eq_true_eq, decide_eq_true_eq] at g6'
        rcases g6' with z | z
        · exact .inl (cb.fnb g1 (decide_eq_true z))
        · exact .inr (by rw [cb.scope]; exact z)
      have ht : ∀ (s : Shared) (H : Hp) (C : Addr) (cl : List (Str × Addr)) (fp' : List Addr), PTs (X.blk s H scope (compEnvC scope cl C X.env) fp') [te] (tEvB X.K X.prog X.w xc E0 (evc F (.so t))) := fun s H C cl fp' =>
        semCc G F k xc N (.so t) (c.toCxt.blk s H scope C cl fp') (by unfold chkC; exact b2)
      have he : ∀ (s : Shared) (H : Hp) (C : Addr) (cl : List (Str × Addr)) (fp' : List Addr), PE (X.blk s H scope (compEnvC scope cl C X.env) fp') (.Name g1 gp1) (tVar gi) := fun s H C cl fp' => by
        have cb := c.toCxt.blk s H scope C cl fp'
        exact pe_var (by rw [cb.names]; exact g1') (by rw [cb.scope]; exact isVis_of g4') ng1 ng2
      have hsw := sw_eq (elt := .Name g1 gp1) (gs := [⟨.Name g1 gp2, .Name fd fp, [te], 0⟩]) (scope := scope) (pos := lp) (py := smp) (y := sm) (l := apos.line) (env := X.env) (by rw [c.scope]; exact c.kind)
      cases hs : swaps X.env.scope sm smp scope lp with
      | false =>
        rw [hs] at hsw
        exact ps_set hN hi (by rw [c.scope]; exact isLoc_of m2) (pe_lc (own := ownOf N [gi]) c.calm hN (pi_list vf) ok hg ht he (fun _ => rfl)) hsw (.inl (c.fnb sm rfl))
      | true =>
        rw [hs] at hsw
        have hl : X.env.scope.names.lookup sm = some .local := by
          unfold swaps at hs
          simp only [Bool.and_eq_true, decide_eq_true_eq] at hs
          exact hs.1.1
        exact ps_setLc (own := ownOf N [gi]) c.calm hN hi hl hsw (pi_list vf) ok hg ht he (fun _ => rfl)
    have S2 := ps_if (X := X) (pos := ifp) (pt_cmpR (pos := cpos) op_gt (pe_callB (p := lnp) (pos := lnpos) call_len_seq gl1 gl2 (by decide +kernel) (pa_cons (vs (pp := sm2p)) pa_nil)) (pe_int (i := 0) (j := cc) (pos := czp)) rfl)
      (pss_one (ps_expr (pos := e1p) (pe_bm (apos := a1) (cpos := c1) PySem.F.plainAttrs_list PySem.F.slot_list_append PySem.F.type_list_append mt_append (pe_ix (pos := subp) ix_list (vs (pp := sm3p)) (pe_int (i := 0) (j := ck) (pos := czp2)) (fun _ _ => rfl)) (pa_cons (vx (pp := x2p)) pa_nil) rfl rfl p3)))
      (pss_one (ps_expr (pos := e2p) (pe_bm (apos := a2) (cpos := c2) PySem.F.plainAttrs_list PySem.F.slot_list_append PySem.F.type_list_append mt_append (vf (pp := fd2p)) (pa_cons (pe_lst (pos := lstp) (pa_cons (vx (pp := x3p)) pa_nil)) pa_nil) rfl rfl p4)))
    refine PS.mono (ps_for c.pown c.calm (pi_range1 (p := rp) gr1 gr2 (pa_cons ((semE G F k xc N n).rd c.toCxt r6) pa_nil (star_of r5)) (star_of r5)) (pg_name hN (by rw [c.names]; exact x1) (by rw [c.scope]; exact isLoc_of x2') (.inl (c.fnb x rfl))) (pss_cons S1 (pss_one S2)) (fun _ => rfl)) ?_
    rintro D σ H ⟨Pn, M0, M, ρ, I, z⟩
    unfold ex at z
    split at z
    · rename_i ho
      obtain ⟨a, q1, q2, q3, q4, q5⟩ := I.own _ _ ho
      have ha : H a = some (.lst []) := by
        rcases q5 with ⟨_, _, e1, ha, ra⟩ | ⟨_, _, e1, _⟩ | ⟨_, _, e1, _⟩
        · cases e1; cases ra; exact ha
        · cases e1
        · cases e1
      have lf : fi < ρ.length := (List.getElem?_eq_some_iff.mp ho).1
      generalize hρ : (((ρ.set fi .nul).set xi .nul).set si .nul).set gi .nul = ρ0 at z
      have hlen : ρ0.length = ρ.length := by rw [← hρ]; simp only [List.length_set]
      have I0 : SIv X.K X.prog X.w Pn M0 M σ H ρ0 := by rw [← hρ]; exact (((I.hideR fi).hideR xi).hideR si).hideR gi
      split at z
      · exact (show False from z).elim
      · rename_i hall
        rw [Bool.not_eq_false] at hall
        simp only [Bool.and_eq_true, decide_eq_true_eq] at hall
        obtain ⟨⟨⟨h0, l1⟩, l2⟩, l3⟩ := hall
        have hno : ∀ (i : Nat) (d : PyData), ρ0[i]? ≠ some (Slot.own d) := fun i d e => by
          have := List.all_eq_true.mp h0 _ (List.mem_of_getElem? e)
          cases this
        have nulF : ρ0[fi]? = some .nul := by
          rw [← hρ, List.getElem?_set_ne (Ne.symm d3), List.getElem?_set_ne (Ne.symm d2), List.getElem?_set_ne (Ne.symm d1), List.getElem?_set_self lf]
        have nulX : ρ0[xi]? = some .nul := by
          rw [← hρ, List.getElem?_set_ne (Ne.symm d5), List.getElem?_set_ne (Ne.symm d4), List.getElem?_set_self (by rw [List.length_set]; exact l1)]
        have nulS : ρ0[si]? = some .nul := by
          rw [← hρ, List.getElem?_set_ne (Ne.symm d6), List.getElem?_set_self (by simp only [List.length_set]; exact l2)]
        have nulG : ρ0[gi]? = some .nul := by
          rw [← hρ, List.getElem?_set_self (by simp only [List.length_set]; exact l3)]
        refine ⟨Pn, M0, M, ρ0, I0, Gd.rp I0 z fun d hd g v H1 s1 p => ?_⟩
        cases d <;> first | exact (show False from g).elim | skip
        rename_i m
        have ev := RpR.int p
        subst ev
        have g' : Gd X.K X.prog X.w xc E Pn M0 D (if 0 ≤ m ∧ m < 1000 then (grpAll (fun j g => (Iv.ev F false t ((ρ0.set xi (.val (.int (j : Nat)))).set gi (.val (.list g)))).bind asB) 0 m.toNat []).nox.fl fun gs => .nx (ρ0.set fi (.own (.list (gs.map .list)))) else .bad) := g
        by_cases hm : 0 ≤ m ∧ m < 1000
        · rw [if_pos hm] at g'
          generalize hT : (fun (j : Nat) (g : List PyData) => (Iv.ev F false t ((ρ0.set xi (.val (.int (j : Nat)))).set gi (.val (.list g)))).bind asB) = T at g'
          obtain ⟨gf, hgf, gk⟩ : ∃ gf, grpAll T 0 m.toNat [] = .ok gf ∧ Gd X.K X.prog X.w xc E Pn M0 D (.nx (ρ0.set fi (.own (.list (gf.map .list))))) := by
            cases q : grpAll T 0 m.toNat [] with
            | ok gf => rw [q] at g'; exact ⟨gf, rfl, g'⟩
            | exc cc => rw [q] at g'; exact (show False from g').elim
            | bad => rw [q] at g'; exact (show False from g').elim
          refine ⟨m, rfl, by omega, by omega, ?_⟩
          refine for_range (lo := 0) (n := m.toNat) (fun i σ' H' => ∃ M' ps ks, SIv X.K X.prog X.w Pn M0 M' σ' H' ρ0 ∧ σ'[fi]? = some (some (.ref a)) ∧ Grp H' M' M0 Pn a ps ks i ∧ grpAll T i (m.toNat - i) (ks.map gD) = .ok gf)
            ⟨M, [], [], I0.sm s1, q1, ⟨rfl, Nat.zero_le _, s1.st _ _ ha trivial, ⟨q2, q3, q4⟩, fun _ z => (nomatch z), List.nodup_nil, fun j p k e => by simp at e⟩, hgf⟩ ?_ ?_
          · rintro i σ' H' hi ⟨M', ps, ks, I', hf, gr, hall⟩
            rw [show ((0 : Int) + (i : Nat)) = (i : Nat) from Int.zero_add _]
            have hn1 : m.toNat - i = (m.toNat - (i + 1)) + 1 := by omega
            rw [hn1, grpAll] at hall
            obtain ⟨r, hput, hall⟩ : ∃ r, grpPut (T i) (.int (i : Nat)) (ks.map gD) = .ok r ∧ grpAll T (i + 1) (m.toNat - (i + 1)) r = .ok gf := by
              cases q : grpPut (T i) (.int (i : Nat)) (ks.map gD) with
              | ok r => rw [q] at hall; exact ⟨r, rfl, hall⟩
              | exc cc => rw [q] at hall; cases hall
              | bad => rw [q] at hall; cases hall
            obtain ⟨fs, fl, ft, fr⟩ := put_flags hput
            subst fr
            have lxr : xi < σ'.length := by rw [← I'.len, hlen]; exact l1
            have lsr : si < σ'.length := by rw [← I'.len, hlen]; exact l2
            have lgr : gi < σ'.length := by rw [← I'.len, hlen]; exact l3
            have hplen : ps.length ≤ i := by rw [gr.len]; exact gr.few
            have smallI : i < sizeLine := by rw [sizeLine_eq]; omega
            -- same = [..]
            refine ⟨.ref a, by rw [List.getElem?_set_ne d1.symm]; exact hf, a, rfl, ⟨_, SqL.of gr.at_⟩, fun Dd hD => ?_⟩
            have sD : Sm H' (upd H' Dd (.lst [])) := Sm.new hD
            refine lc_list (K := X.K) (a := a) (xs := ps.map .ref) (fun j Hc => Sm H' Hc ∧ Hc Dd = some (.lst ((selA (fs.take j) (ps.take j)).map .ref))) ⟨sD, upd_same⟩ (fun j Hc _ hp => SqL.of (hp.1.st _ _ gr.at_ trivial)) ?_ ?_
            · rintro j x Hc hx ⟨sc, hDc⟩
              rw [List.getElem?_map] at hx
              obtain ⟨p, hp, rfl⟩ : ∃ p, ps[j]? = some p ∧ x = V.ref p := by
                cases q : ps[j]? with
                | none => rw [q] at hx; cases hx
                | some p => rw [q] at hx; cases hx; exact ⟨p, rfl, rfl⟩
              have hj : j < ps.length := (List.getElem?_eq_some_iff.mp hp).1
              obtain ⟨k, hk⟩ : ∃ k, ks[j]? = some k := ⟨_, List.getElem?_eq_getElem (by rw [← gr.len]; exact hj)⟩
              obtain ⟨f, hff⟩ : ∃ f, fs[j]? = some f := ⟨_, List.getElem?_eq_getElem (by rw [fl, ← gr.len]; exact hj)⟩
              have hTk := ft j k f hk hff
              rw [← hT] at hTk
              replace hTk : ((Iv.ev F false t ((ρ0.set xi (.val (.int (i : Nat)))).set gi (.val (.list (gD k))))).bind asB) = R.ok f := hTk
              have pin := List.mem_of_getElem? hp
              have hHp := sc.st _ _ (gr.st j p k hp hk).1 trivial
              have I2 : SIv X.K X.prog X.w Pn M0 (fun b => M' b ∧ b ∉ ps) σ' Hc ρ0 := (I'.sm sc).less hno (fun b z => z.1) fun b z => ⟨I'.m0 b z, fun hb => (gr.mp b hb).2.1 z⟩
              have I4 := (I2.set (i := xi) (v := .int (i : Nat)) (d := .int (i : Nat)) (.int _)).set (i := gi) (v := .ref p) (d := .list (gD k)) (.lst hHp (fun z => z.2 pin) (RpA.ofInts k))
              have eσ : (L2.wipe (σ'.set xi (some (V.int (i : Nat)))) [gi]).set gi (some (.ref p)) = (σ'.set xi (some (V.int (i : Nat)))).set gi (some (.ref p)) := by
                show ((σ'.set xi (some (V.int (i : Nat)))).set gi none).set gi _ = _
                rw [List.set_set]
              refine ⟨by rw [wipe_set (.head _), wipe_wipe _ [gi] [gi] fun _ z => z], Pn, M0, _, _, by rw [eσ]; exact I4, ?_⟩
              show RP xc E0 Hc ((Iv.ev F false t ((ρ0.set xi (.val (.int (i : Nat)))).set gi (.val (.list (gD k))))).bind asB) _
              rw [hTk]
              intro H3 s3
              have hD3 := s3.st _ _ hDc trivial
              have e1 : fs.take (j + 1) = fs.take j ++ [f] := by rw [List.take_succ, hff]; rfl
              have e2 : ps.take (j + 1) = ps.take j ++ [p] := by rw [List.take_succ, hp]; rfl
              have e3 : selA (fs.take (j + 1)) (ps.take (j + 1)) = selA (fs.take j) (ps.take j) ++ (if f then [p] else []) := by
                rw [e1, e2, sel_snoc _ _ _ _ (by rw [List.length_take, List.length_take, fl, gr.len])]
              cases f with
              | false =>
                refine iteF ⟨sc.trans s3, ?_⟩
                rw [e3, hD3]
                show _ = some (HO.lst ((selA (fs.take j) (ps.take j) ++ []).map .ref))
                rw [List.append_nil]
              | true =>
                refine iteT ⟨.ref p, ?_, _, hD3, ?_, (sc.trans s3).wrL hD hD3, ?_⟩
                · rw [eσ, List.getElem?_set_self (by rw [List.length_set]; exact lgr)]
                · rw [List.length_map]
                  have := sel_len (fs.take j) (ps.take j)
                  rw [List.length_take] at this
                  omega
                · rw [upd_same, e3]
                  show _ = some (HO.lst ((selA (fs.take j) (ps.take j) ++ [p]).map .ref))
                  rw [List.map_append]; rfl
            · rintro H1 ⟨sc, hDc⟩
              rw [List.length_map, List.take_of_length_le (Nat.le_of_eq (fl.trans gr.len.symm)), List.take_of_length_le (Nat.le_refl _)] at hDc
              have g1 := gr.sm sc
              have hs : ((σ'.set xi (some (V.int (i : Nat)))).set si (some (.ref Dd)))[si]? = some (some (.ref Dd)) := List.getElem?_set_self (by rw [List.length_set]; exact lsr)
              have hx : ((σ'.set xi (some (V.int (i : Nat)))).set si (some (.ref Dd)))[xi]? = some (some (.int (i : Nat))) := by
                rw [List.getElem?_set_ne (Ne.symm d4), List.getElem?_set_self lxr]
              have hfs : ((σ'.set xi (some (V.int (i : Nat)))).set si (some (.ref Dd)))[fi]? = some (some (.ref a)) := by
                rw [List.getElem?_set_ne (Ne.symm d2), List.getElem?_set_ne (Ne.symm d1)]; exact hf
              refine ⟨.ref Dd, hs, Dd, _, rfl, .inl (SqL.of hDc), _, _, rfl, rfl, _, rfl, ?_⟩
              rcases sel_first fs ps (fl.trans gr.len.symm) with ⟨z1, z2⟩ | ⟨j, q, r, z1, z2, z3⟩
              · rw [z1]
                refine iteF ?_
                have ha1 := g1.at_
                refine ⟨.ref a, hfs, .inl ⟨rfl, _, SqL.of ha1⟩, .int (i : Nat), hx, by show 1 ≤ sizeLine; decide, fun l hl => ⟨a, ps.map .ref, .ref l, rfl, rfl, by rw [upd_ne (ne_of_none ha1 hl)]; exact ha1, by rw [List.length_map]; omega, ?_⟩⟩
                have lne : ∀ p ∈ ps, p ≠ l := fun p hp z => by
                  subst z
                  obtain ⟨j, hj, e⟩ := List.getElem_of_mem hp
                  have e1 : ps[j]? = some p := by rw [List.getElem?_eq_getElem hj, e]
                  obtain ⟨k2, e2⟩ : ∃ k2, ks[j]? = some k2 := ⟨_, List.getElem?_eq_getElem (by rw [← gr.len]; exact hj)⟩
                  rw [(g1.st j p _ e1 e2).1] at hl; cases hl
                have ane : a ≠ l := ne_of_none ha1 hl
                have sl : Sm H1 (upd H1 l (.lst [.int (i : Nat)])) := Sm.new hl
                have hal : upd H1 l (.lst [.int (i : Nat)]) a = some (.lst (ps.map .ref)) := by rw [upd_ne ane]; exact ha1
                have J := ((I'.sm sc).hide sl (nn_of hl) ⟨_, upd_same, trivial⟩).wrH hno (a := a) (ys := ps.map .ref ++ [.ref l]) (.inl gr.ma.1) gr.ma.2.2 hal
                refine ⟨_, ps ++ [l], ks ++ [[(i : Int)]], (J.junk nulX).junk nulS, hfs, ⟨?_, ?_, ?_, ⟨.inl gr.ma.1, gr.ma.2⟩, ?_, ?_, ?_⟩, ?_⟩
                · rw [List.length_append, List.length_append, gr.len]; rfl
                · rw [List.length_append]
                  have := gr.few
                  show ks.length + 1 ≤ _
                  omega
                · rw [upd_same, List.map_append]; rfl
                · intro p hp
                  rcases List.mem_append.mp hp with hp | hp
                  · exact ⟨.inl (gr.mp p hp).1, (gr.mp p hp).2⟩
                  · rw [List.mem_singleton] at hp
                    subst hp
                    refine ⟨.inr rfl, fun z => ?_, fun o z => ?_, Ne.symm ane⟩
                    · obtain ⟨o, h1, h2⟩ := (I'.sm sc).mh p ((I'.sm sc).m0 p z)
                      rw [hl] at h1; cases h1
                    · have := (I'.sm sc).pin p o z
                      rw [hl] at this; cases this
                · rw [List.nodup_append]
                  refine ⟨gr.nd, List.nodup_cons.mpr ⟨fun z => (nomatch z), List.nodup_nil⟩, fun x hx y hy => ?_⟩
                  rw [List.mem_singleton] at hy
                  rw [hy]; exact lne x hx
                · intro j p k e1 e2
                  by_cases hj : j < ps.length
                  · rw [List.getElem?_append_left hj] at e1
                    rw [List.getElem?_append_left (by rw [← gr.len]; exact hj)] at e2
                    obtain ⟨h1, h2⟩ := g1.st j p k e1 e2
                    have pin := List.mem_of_getElem? e1
                    exact ⟨by rw [upd_ne (gr.mp p pin).2.2.2, upd_ne (lne p pin)]; exact h1, by omega⟩
                  · have hj' := (List.getElem?_eq_some_iff.mp e1).1
                    rw [List.length_append] at hj'
                    have ej : j = ps.length := by
                      have : ([l] : List Addr).length = 1 := rfl
                      omega
                    subst ej
                    rw [List.getElem?_concat_length] at e1
                    rw [gr.len, List.getElem?_concat_length] at e2
                    cases e1; cases e2
                    exact ⟨by rw [upd_ne (Ne.symm ane), upd_same]; rfl, by show 1 ≤ _; omega⟩
                · rw [← z2 (i : Nat) ks fl.symm]; exact hall
              · rw [z1] at hDc ⊢
                obtain ⟨k, hk, ek⟩ := z3 (i : Nat) ks fl.symm
                have hpos : decide ((0 : Int) < (((q :: r).map V.ref).length : Nat)) = true := decide_eq_true (by rw [List.length_map, List.length_cons]; omega)
                rw [if_pos hpos]
                have qin := List.mem_of_getElem? z2
                obtain ⟨hq, hkl⟩ := g1.st j q k z2 hk
                refine ⟨.ref Dd, hs, Dd, (q :: r).map .ref, 0, .ref q, rfl, rfl, SqL.of hDc, atI_nat (j := 0) rfl, .inl ⟨rfl, _, SqL.of hq⟩, .int (i : Nat), hx, q, k.map V.int, .int (i : Nat), rfl, rfl, hq, by rw [List.length_map]; omega, ?_⟩
                have J := (I'.sm sc).wrH hno (a := q) (ys := k.map V.int ++ [.int (i : Nat)]) (gr.mp q qin).1 (gr.mp q qin).2.2.1 hq
                refine ⟨_, ps, ks.set j (k ++ [(i : Int)]), (J.junk nulX).junk nulS, hfs, ⟨?_, ?_, ?_, gr.ma, gr.mp, gr.nd, ?_⟩, ?_⟩
                · rw [List.length_set]; exact gr.len
                · rw [List.length_set]
                  have := gr.few
                  omega
                · rw [upd_ne (Ne.symm (gr.mp q qin).2.2.2)]; exact g1.at_
                · intro j' p k' e1 e2
                  by_cases hj : j = j'
                  · subst hj
                    rw [z2] at e1
                    cases e1
                    have hlt : j < ks.length := (List.getElem?_eq_some_iff.mp hk).1
                    rw [List.getElem?_set_self hlt] at e2
                    cases e2
                    refine ⟨by rw [upd_same, List.map_append]; rfl, ?_⟩
                    rw [List.length_append]
                    show k.length + 1 ≤ _
                    omega
                  · rw [List.getElem?_set_ne hj] at e2
                    obtain ⟨h1, h2⟩ := g1.st j' p k' e1 e2
                    have pq : p ≠ q := fun z => by
                      subst z
                      obtain ⟨a1, b1⟩ := List.getElem?_eq_some_iff.mp z2
                      obtain ⟨a2, b2⟩ := List.getElem?_eq_some_iff.mp e1
                      exact hj ((List.getElem_inj gr.nd).mp (b1.trans b2.symm))
                    exact ⟨by rw [upd_ne pq]; exact h1, by omega⟩
                · rw [← ek]; exact hall
          · rintro σ' H' ⟨M', ps, ks, I', hf, gr, hall⟩
            rw [Nat.sub_self, grpAll] at hall
            have egf : ks.map gD = gf := R.ok.inj hall
            subst egf
            have lff : fi < σ'.length := (List.getElem?_eq_some_iff.mp hf).1
            -- the groups are frozen, the list of them is the name's own
            have sub : ∀ b, (M' b ∧ b ∉ ps) → M' b := fun b z => z.1
            have I2 : SIv X.K X.prog X.w Pn M0 (fun b => M' b ∧ b ∉ ps) σ' H' ρ0 := I'.less hno sub fun b z => ⟨I'.m0 b z, fun hb => (gr.mp b hb).2.1 z⟩
            refine gk (fun b => M' b ∧ b ∉ ps) σ' H' ?_
            have els : ∀ {ps' : List Addr} {ks' : List (List Int)}, ps'.length = ks'.length → (∀ p ∈ ps', p ∈ ps) → (∀ (j : Nat) (p : Addr) (k : List Int), ps'[j]? = some p → ks'[j]? = some k → H' p = some (.lst (k.map V.int))) →
                RpA X.K X.prog X.w H' (fun b => M' b ∧ b ∉ ps) (ps'.map .ref) ((ks'.map gD).map .list) := by
              intro ps'
              induction ps' with
              | nil =>
                intro ks' e _ _
                cases ks' with
                | nil => exact .nil
                | cons _ _ => cases e
              | cons p ps' ih =>
                intro ks' e hs hh
                cases ks' with
                | nil => cases e
                | cons k ks' =>
                  exact .cons (.lst (hh 0 p k rfl rfl) (fun z => z.2 (hs p (.head _))) (RpA.ofInts k)) (ih (by simpa using e) (fun q hq => hs q (.tail _ hq)) fun j q l h1 h2 => hh (j + 1) q l h1 h2)
            have rp : RpO X.K X.prog X.w H' (fun b => M' b ∧ b ∉ ps) a (.list ((ks.map gD).map .list)) := .inl ⟨_, _, rfl, gr.at_, els gr.len (fun _ z => z) fun j p k h1 h2 => (gr.st j p k h1 h2).1⟩
            have lfr : fi < ρ0.length := by rw [I'.len]; exact lff
            exact {
              len := by rw [List.length_set]; exact I2.len
              val := fun j d e => by
                have hij : fi ≠ j := fun z => by
                  subst z
                  rw [List.getElem?_set_self lfr] at e; cases e
                rw [List.getElem?_set_ne hij] at e
                exact I2.val j d e
              own := fun j d e => by
                by_cases hij : fi = j
                · subst hij
                  rw [List.getElem?_set_self lfr] at e
                  cases e
                  exact ⟨a, hf, ⟨gr.ma.1, fun hb => (gr.mp a hb).2.2.2 rfl⟩, gr.ma.2.1, gr.ma.2.2, rp⟩
                · rw [List.getElem?_set_ne hij] at e
                  exact (hno j d e).elim
              inj := fun j k d e b h1 h2 _ _ => by
                have one : ∀ {j : Nat} {d : PyData}, (ρ0.set fi (.own (.list ((ks.map gD).map .list))))[j]? = some (Slot.own d) → fi = j := fun {j d} e => by
                  by_cases hij : fi = j
                  · exact hij
                  · rw [List.getElem?_set_ne hij] at e
                    exact (hno j d e).elim
                exact (one h1).symm.trans (one h2)
              mh := I2.mh
              m0 := I2.m0
              pin := I2.pin
              mp := I2.mp
              pnt := I2.pnt
              tb := I2.tb }
        · rw [if_neg hm] at g'; exact (show False from g').elim
    · exact (show False from z).elim
  · cases h
/-! o[k] = e -/
theorem PE.or {X : Cx} {e : Expr} {t u : TE} (h1 : PE X e t) (h2 : PE X e u) : PE X e (fun σ H Q => t σ H Q ∨ u σ H Q) := ⟨fun pins s σ H Q I h => h.elim (h1.run pins s σ H Q I) (h2.run pins s σ H Q I)⟩
theorem PSet.or {X : Cx} {t u : TSet} (h1 : PSet X t) (h2 : PSet X u) : PSet X (fun o i v H Q => t o i v H Q ∨ u o i v H Q) := fun pins s σ H o i v ov iv u Q I ro ri rv h => h.elim (h1 pins s σ H o i v ov iv u Q I ro ri rv) (h2 pins s σ H o i v ov iv u Q I ro ri rv)
def rSetK : TSet := fun o i v H Q => ∃ a es k, o = .ref a ∧ i = kV k ∧ H a = some (.dK es) ∧ es.length < sizeLine ∧ ((es.map (·.1)).Nodup → Q (upd H a (.dK (putK es k v))))
theorem set_K {X : Cx} (hu : X.A.units + 1 < cLine) : PSet X rSetK := by
  rintro pins s σ H o i v ov iv u Q I ro ri rv ⟨a, es, k, rfl, rfl, ha, hl, q⟩
  exact set_dict hu pins s σ H _ _ v ov iv u Q I ro ri rv ⟨a, _, rfl, DPut.k ha hl, q (dk_nodup I ha)⟩
theorem ps_setIx {X : Cx} {o i v : Expr} {to ti te : TE} {t : TSet} {pos' pos : Pos} (ho : PE X o to) (hi : PE X i ti) (hv : PE X v te) (ht : PSet X t) (hs : swapsWith v (some (.Subscript o i pos')) pos.line X.env = pure false) :
    PS X (.Assign [.Subscript o i pos'] v pos) (fun D σ H => te σ H fun y H1 => to σ H1 fun x H2 => ti σ H2 fun z H3 => t x z y H3 fun H4 => D.nx σ H4) := by
  refine ⟨fun pins s σ H D I h => ?_⟩
  refine wpAny_Assign_Subscript (thn (hv.run pins s σ H _ I h) fun r s1 ⟨v, H1, I1, rv, q1⟩ => thn (ho.run pins s1 σ H1 _ I1 q1) fun u s2 ⟨x, H2, I2, rx, q2⟩ => thn (hi.run pins s2 σ H2 _ I2 q2) fun iv s3 ⟨y, H3, I3, ry, q3⟩ => ?_) hs
  exact thn (ht pins s3 σ H3 x y v u iv r _ I3 rx ry rv q3) fun _ s4 ⟨H4, I4, q4⟩ => ⟨σ, H4, I4, q4⟩
theorem sem_setIx0 {i : Nat} {ke e : Iv.E} {sc : Scope} {E : XK} {X : Cx} {st : Stmt} (c : CxtS G F k xc N sc E X) (h : chkSt G N sc (.setIx i ke e) st = true) : PS X st (tEx X.K X.prog X.w xc E (ex F (.setIx i ke e))) := by
  unfold chkSt at h
  simp only [chk0] at h
  split at h
  · rename_i x xp kx sp v pos
    simp only [Bool.and_eq_true, decide_eq_true_eq, Bool.not_eq_true'] at h
    obtain ⟨⟨⟨⟨⟨h1, h2⟩, h3⟩, h4⟩, h5⟩, h6⟩ := h
    obtain ⟨n1, n2, _⟩ := okN_of h3
    have hv : PE X (.Name x xp) (tVar i) := pe_var (by rw [c.names]; exact h1) (by rw [c.scope]; exact isVis_of h2) n1 n2
    have hu := c.toCxt.hu
    refine PS.mono (ps_setIx hv (PE.or ((semE G F k xc N ke).ss c.toCxt h4) ((semE G F k xc N ke).rd c.toCxt h4)) ((semE G F k xc N e).ss c.toCxt h5) (PSet.or set_list (PSet.or (set_T (by omega)) (set_K (by omega)))) (sw_no h6)) ?_
    rintro D σ H ⟨Pn, M0, M, ρ, I, z⟩
    unfold ex at z
    refine ⟨Pn, M0, M, ρ, I, Gd.rp I z fun d _ g y H1 s1 p => ?_⟩
    have J1 := I.sm s1
    split at g
    · rename_i xs ho
      obtain ⟨a, q1, q2, q3, q4, q5⟩ := J1.own _ _ ho
      rcases q5 with ⟨vs, ds, e1, ha, ra⟩ | ⟨_, _, e1, _⟩ | ⟨_, _, e1, _⟩
      · cases e1
        refine ⟨.ref a, q1, .inr ⟨Pn, M0, M, ρ, J1, Gd.rp J1 g fun kd hkd g2 kv H2 s2 pk => ?_⟩⟩
        split at g2
        · rename_i z0
          split at g2
          · rename_i j hj
            have ha2 := s2.st _ _ ha trivial
            have kp := own_keep (o' := .lst (vs.set j y)) ha2 trivial q2
            refine .inl ⟨a, vs, z0, j, rfl, pk.int, ha2, by rw [ra.length]; exact hj, ?_⟩
            exact g2 _ _ _ ((J1.sm s2).wr ho q1 (.inl ⟨_, _, rfl, upd_same, ((ra.sm s2).to kp fun _ z => .inl z).set j ((p.sm s2).to kp fun _ z => .inl z)⟩))
          · exact (show False from g2).elim
        · exact (show False from g2).elim
      · cases e1
      · cases e1
    · rename_i kvs ho
      obtain ⟨a, q1, q2, q3, q4, q5⟩ := J1.own _ _ ho
      rcases q5 with ⟨_, _, e1, _⟩ | ⟨es, kvs', e1, ha, rt⟩ | ⟨_, _, e1, _⟩
      · cases e1
      · cases e1
        refine ⟨.ref a, q1, .inl ⟨Pn, M0, M, ρ, J1, Gd.rp J1 g fun kd hkd g2 kv H2 s2 pk => ?_⟩⟩
        split at g2
        · rename_i hok
          simp only [Bool.and_eq_true, decide_eq_true_eq] at hok
          obtain ⟨ok, hl⟩ := hok
          obtain ⟨ds, n, rfl, hk, _⟩ := keyOk_t ok
          have ha2 := s2.st _ _ ha trivial
          have rt2 := RpT.sm s2 rt
          obtain ⟨b, us, rfl, _⟩ := RpR.tup (.inl pk)
          refine .inr (.inl ⟨M, a, es, kvs, _, n, b, rfl, rfl, ha2, rt2, hk, ok, pk, by rw [rpt_len rt]; exact Nat.lt_of_lt_of_le hl dlim_le, fun u ru nd => ?_⟩)
          have kp := own_keep (o' := DkO X.prog X.w a (storedH es n b u)) ha2 trivial q2
          exact g2 _ _ _ ((J1.sm s2).wr ho q1 (.inr (.inl ⟨_, _, rfl, upd_same, (rpt_put hk ok pk ru (p.sm s2) nd rt2).to kp fun _ z => .inl z⟩)))
        · exact (show False from g2).elim
      · cases e1
    · rename_i kvs ho
      obtain ⟨a, q1, q2, q3, q4, q5⟩ := J1.own _ _ ho
      rcases q5 with ⟨_, _, e1, _⟩ | ⟨_, _, e1, _⟩ | ⟨es, kvs', e1, ha, rt⟩
      · cases e1
      · cases e1
      · cases e1
        refine ⟨.ref a, q1, .inl ⟨Pn, M0, M, ρ, J1, Gd.rp J1 g fun kd hkd g2 kv H2 s2 pk => ?_⟩⟩
        split at g2
        · rename_i hok
          simp only [Bool.and_eq_true, decide_eq_true_eq] at hok
          obtain ⟨ok, hl⟩ := hok
          obtain ⟨q, rfl⟩ := keyOk_f ok
          obtain rfl := RpR.keyD (.inl pk)
          have ha2 := s2.st _ _ ha trivial
          have rt2 := RpK.sm s2 rt
          refine .inr (.inr ⟨a, es, q, rfl, rfl, ha2, by rw [rpk_len rt]; exact Nat.lt_of_lt_of_le hl dlim_le, fun nd => ?_⟩)
          have kp := own_keep (o' := .dK (putK es q y)) ha2 trivial q2
          exact g2 _ _ _ ((J1.sm s2).wr ho q1 (.inr (.inr ⟨_, _, rfl, upd_same, (rpk_put (p.sm s2) nd rt2).to kp fun _ z => .inl z⟩)))
        · exact (show False from g2).elim
    · exact (show False from g).elim
  · cases h

/-! ### blocks -/
theorem gd_seq {K : PySem.W.Frag} {P : Program} {w : World} {E : XK} {Pn : Addr → HO → Prop} {M0 : Addr → Prop} {D : Ends} {r : Fl} {f : Env → Fl} (h : Gd K P w xc E Pn M0 D (r.then f)) : Gd K P w xc E Pn M0 { D with nx := tEx K P w xc E f D } r := by
  cases r with
  | nx ρ => exact fun M σ H I => ⟨Pn, M0, M, ρ, I, h⟩
  | _ => exact h
theorem sem_iff0 {ce : Iv.E} {a b : S} (ha : SemT G F k xc N a) (hb : SemT G F k xc N b) {sc : Scope} {E : XK} {X : Cx} {st : Stmt} (c : CxtS G F k xc N sc E X)
    (h : (match st with | .If q la lb _ => chkB G N ce sc q && chkL G N sc a la && chkL G N sc b lb | _ => false) = true) : PS X st (tEx X.K X.prog X.w xc E (ex F (.iff ce a b))) := by
  split at h
  · simp only [Bool.and_eq_true] at h
    obtain ⟨⟨h1, h2⟩, h3⟩ := h
    refine PS.mono (ps_if ((semE G F k xc N ce).te c.toCxt h1) (ha.all c h2) (hb.all c h3)) ?_
    rintro D σ H ⟨Pn, M0, M, ρ, I, z⟩
    refine ⟨Pn, M0, M, ρ, I, ?_⟩
    have z' : Gd X.K X.prog X.w xc E Pn M0 D ((ev F false ce ρ).fl fun d => (asB d).fl fun k => if k then ex F a ρ else ex F b ρ) := z
    show RP xc E H ((ev F false ce ρ).bind asB) _
    cases q : ev F false ce ρ with
    | exc cc => rw [q] at z'; exact fun H' sm => z' H' (I.sm sm).ez
    | bad => rw [q] at z'; exact z'
    | ok d =>
      rw [q] at z'
      cases d with
      | bool bb =>
        intro H1 s1
        cases bb with
        | true => exact iteT ⟨Pn, M0, M, ρ, I.sm s1, z'⟩
        | false => exact iteF ⟨Pn, M0, M, ρ, I.sm s1, z'⟩
      | _ => exact (show False from z').elim
  · cases h
theorem sem_whl0 {ce : Iv.E} {b : S} (hb : SemT G F k xc N b) {sc : Scope} {E : XK} {X : Cx} {st : Stmt} (c : CxtS G F k xc N sc E X)
    (h : (match st with | .While q lb [] _ => chkB G N ce sc q && chkL G N sc b lb | _ => false) = true) : PS X st (tEx X.K X.prog X.w xc E (ex F (.whl ce b))) := by
  split at h
  · simp only [Bool.and_eq_true] at h
    obtain ⟨h1, h2⟩ := h
    refine PS.mono (ps_while c.pown ((semE G F k xc N ce).te c.toCxt h1) (hb.all c h2)) ?_
    rintro D σ H ⟨Pn, M0, M, ρ, I, z⟩
    refine ⟨fun m σ H => ∃ M ρ, SIv X.K X.prog X.w Pn M0 M σ H ρ ∧ Gd X.K X.prog X.w xc E Pn M0 D (whileL (fun ρ => (ev F false ce ρ).bind asB) (fun ρ => ex F b ρ) m ρ), ⟨WF, M, ρ, I, z⟩, fun m σ H hW => ?_⟩
    obtain ⟨M, ρ, I, z⟩ := hW
    cases m with
    | zero => exact z.elim
    | succ m =>
      unfold whileL at z
      refine ⟨Pn, M0, M, ρ, I, Gd.rp I z fun bb _ g H1 s1 => ?_⟩
      cases bb with
      | false => exact iteF (g _ _ _ (I.sm s1))
      | true =>
        refine iteT ⟨fun σ' H' => ∃ m', m' < m + 1 ∧ ∃ M ρ, SIv X.K X.prog X.w Pn M0 M σ' H' ρ ∧ Gd X.K X.prog X.w xc E Pn M0 D (whileL (fun ρ => (ev F false ce ρ).bind asB) (fun ρ => ex F b ρ) m' ρ), fun _ _ q => q, Pn, M0, M, ρ, I.sm s1, ?_⟩
        simp only [if_true] at g
        cases q : ex F b ρ with
        | nx ρ' => rw [q] at g; exact fun M' σ' H' I' => ⟨m, Nat.lt_succ_self m, M', ρ', I', g⟩
        | ct ρ' => rw [q] at g; exact fun M' σ' H' I' => ⟨m, Nat.lt_succ_self m, M', ρ', I', g⟩
        | bk ρ' => rw [q] at g; exact g
        | rt d => rw [q] at g; exact g
        | exc cc => rw [q] at g; exact g
        | bad => rw [q] at g; exact g
  · cases h
theorem sem_for0 {t : T} {s : Src} {b : S} (hb : SemT G F k xc N b) {sc : Scope} {E : XK} {X : Cx} {st : Stmt} (c : CxtS G F k xc N sc E X)
    (h : (match st with | .For tg iter lb [] _ => chkT N sc (fun _ => true) none t tg && chkS G N s sc tg iter && notSet iter && chkL G N sc b lb | _ => false) = true) : PS X st (tEx X.K X.prog X.w xc E (ex F (.for_ t s b))) := by
  split at h
  · simp only [Bool.and_eq_true] at h
    obtain ⟨⟨⟨h1, h2⟩, h3⟩, h4⟩ := h
    refine PS.mono (ps_for c.pown c.calm (semRr G F k xc N s c.toCxt h2) (pg_t c.toCxt h1) (hb.all c h4) (set_of h3)) ?_
    rintro D σ H ⟨Pn, M0, M, ρ, I, z⟩
    refine ⟨Pn, M0, M, ρ, I, Gd.rp I z fun xs _ g J H1 s1 hJ => ?_⟩
    have I1 := (I.sm s1).pinned
    generalize hP : (fun a o => Pn a o ∨ (H1 a = some o ∧ nt o ∧ ¬ M a)) = Pn' at I1
    have sub : ∀ a o, Pn a o → Pn' a o := fun a o p => by rw [← hP]; exact .inl p
    generalize hbd : (fun x ρ => match bindT t x ρ with | some ρ1 => ex F b ρ1 | none => Fl.bad) = bd at g
    have cond : ∀ {M' : Addr → Prop} {σ' : L2.St} {H' : Hp} {ρ' : Env}, SIv X.K X.prog X.w Pn' M0 M' σ' H' ρ' → ∀ a, M' a → M a ∨ nn H1 a := fun I' a z => by
      rcases I'.mp a z with q | q
      · exact .inl (I.m0 a q)
      · by_cases hm : M a
        · exact .inl hm
        · right
          intro o e n
          refine q o ?_
          rw [← hP]; exact .inr ⟨e, n, hm⟩
    refine ⟨fun i m σ' H' => m = xs.length - i ∧ i ≤ xs.length ∧ ∃ M' ρ', SIv X.K X.prog X.w Pn' M0 M' σ' H' ρ' ∧ Gd X.K X.prog X.w xc E Pn M0 D (forL bd (xs.drop i) ρ'), ⟨xs.length, by rw [Nat.sub_zero], Nat.zero_le _, M, ρ, I1, g⟩, fun i m σ' H' hW => ?_⟩
    obtain ⟨rfl, hi, M', ρ', I', g⟩ := hW
    have keep : ∀ b o, H1 b = some o → nt o → ¬ M b → H' b = some o := fun b o e t n => I'.pin b o (by rw [← hP]; exact .inr ⟨e, t, n⟩)
    by_cases hlt : i < xs.length
    · right
      obtain ⟨x, hx⟩ : ∃ x, xs[i]? = some x := ⟨_, List.getElem?_eq_getElem hlt⟩
      obtain ⟨_, hgo⟩ := hJ H' keep i
      obtain ⟨hgo, hyld⟩ := hgo x hx
      have hdr : xs.drop i = x :: xs.drop (i + 1) := by
        rw [List.drop_eq_getElem_cons hlt]
        congr 1
        rw [List.getElem?_eq_getElem hlt] at hx
        exact Option.some.inj hx
      rw [hdr] at g
      unfold forL at g
      refine ⟨hgo, fun σ2 H2 => ∃ m', m' < xs.length - i ∧ m' = xs.length - (i + 1) ∧ i + 1 ≤ xs.length ∧ ∃ M' ρ', SIv X.K X.prog X.w Pn' M0 M' σ2 H2 ρ' ∧ Gd X.K X.prog X.w xc E Pn M0 D (forL bd (xs.drop (i + 1)) ρ'), fun _ _ q => q, fun v H2 hy => ?_⟩
      obtain ⟨sy, hv⟩ := hyld v H2 hy
      have hv := hv M' (cond I') I'.mh
      have I2 := I'.sm sy
      cases hb : bindT t x ρ' with
      | none =>
        have e : bd x ρ' = .bad := by rw [← hbd]; simp only [hb]
        rw [e] at g
        exact g.elim
      | some ρ1 =>
        have e : bd x ρ' = ex F b ρ1 := by rw [← hbd]; simp only [hb]
        rw [e] at g
        refine ⟨Pn', M0, M', ρ', x, ρ1, I2, hv, hb, fun σ3 I3 _ => ⟨Pn', M0, M', ρ1, I3, ?_⟩⟩
        have pins : ∀ {H : Hp}, Ez Pn' H → Ez Pn H := fun q => ⟨fun a o p => q.pin a o (sub a o p), q.tb⟩
        cases q : ex F b ρ1 with
        | nx ρ2 => rw [q] at g; exact fun M4 σ4 H4 I4 => ⟨_, by omega, rfl, hlt, M4, ρ2, I4, g⟩
        | ct ρ2 => rw [q] at g; exact fun M4 σ4 H4 I4 => ⟨_, by omega, rfl, hlt, M4, ρ2, I4, g⟩
        | bk ρ2 => rw [q] at g; exact fun M4 σ4 H4 I4 => g M4 σ4 H4 (I4.pins sub)
        | rt d => rw [q] at g; exact fun v H p r => g v H (pins p) r
        | exc cc => rw [q] at g; exact fun H p => g H (pins p)
        | bad => rw [q] at g; exact g
    · left
      have ei : i = xs.length := by omega
      obtain ⟨hst, _⟩ := hJ H' keep i
      refine ⟨hst ei, ?_⟩
      have : xs.drop i = [] := List.drop_eq_nil_of_le (by omega)
      rw [this] at g
      exact g M' σ' H' (I'.pins sub)
  · cases h
theorem sem_ret0 {e : Iv.E} {sc : Scope} {E : XK} {X : Cx} {st : Stmt} (c : CxtS G F k xc N sc E X) (h : chkSt G N sc (.ret e) st = true) : PS X st (tEx X.K X.prog X.w xc E (ex F (.ret e))) := by
  unfold chkSt at h
  simp only [chk0] at h
  split at h
  · refine PS.mono (ps_ret ((semE G F k xc N e).ss c.toCxt h)) ?_
    rintro D σ H ⟨Pn, M0, M, ρ, I, z⟩
    exact ⟨Pn, M0, M, ρ, I, Gd.rp I z fun d _ g v H1 s1 p => g v H1 (I.sm s1).ez (Rp.sub I.m0 p)⟩
  · cases h
theorem sem_retN0 {sc : Scope} {E : XK} {X : Cx} {st : Stmt} (c : CxtS G F k xc N sc E X) (h : chkSt G N sc .retN st = true) : PS X st (tEx X.K X.prog X.w xc E (ex F .retN)) := by
  unfold chkSt at h
  simp only [chk0] at h
  split at h
  · refine PS.mono ps_retN ?_
    rintro D σ H ⟨Pn, M0, M, ρ, I, z⟩
    exact z _ _ I.ez .non
  · cases h
theorem sem_cont0 {sc : Scope} {E : XK} {X : Cx} {st : Stmt} (c : CxtS G F k xc N sc E X) (h : chkSt G N sc .cont st = true) : PS X st (tEx X.K X.prog X.w xc E (ex F .cont)) := by
  unfold chkSt at h
  simp only [chk0] at h
  split at h
  · refine PS.mono ps_continue ?_
    rintro D σ H ⟨Pn, M0, M, ρ, I, z⟩
    exact z _ _ _ I
  · cases h
theorem sem_frz0 {i : Nat} {s : S} (hs : SemT G F k xc N s) {sc : Scope} {E : XK} {X : Cx} {st : Stmt} (c : CxtS G F k xc N sc E X) (h : chkSt G N sc s st = true) : PS X st (tEx X.K X.prog X.w xc E (ex F (.frz i s))) := by
  refine PS.mono (hs.one c h) ?_
  rintro D σ H ⟨Pn, M0, M, ρ, I, z⟩
  obtain ⟨M', I'⟩ := I.frz i
  exact ⟨Pn, M0, M', _, I', z⟩
/-- a statement alone, as a block -/
theorem SemT.mk1 {s : S} (h : ∀ {sc : Scope} {E : XK} {X : Cx} {st : Stmt}, CxtS G F k xc N sc E X → chkSt G N sc s st = true → PS X st (tEx X.K X.prog X.w xc E (ex F s)))
    (q : ∀ sc l, chkL G N sc s l = true → ∃ st, l = [st] ∧ chkSt G N sc s st = true) : SemT G F k xc N s where
  one := h
  all := fun c z => by
    obtain ⟨st, rfl, z'⟩ := q _ _ z
    exact pss_one (h c z')
theorem semS (G : GI) (F : Str → List PyData → R PyData) (k : Nat) (xc : Nat → Value) (N : List Str) : ∀ s : S, SemT G F k xc N s
  | .pass => {
      one := fun c h => by simp [chkSt, chk0] at h
      all := fun {sc E X l} c h => by
        unfold chkL at h
        split at h
        · refine PSs.mono pss_nil ?_
          rintro D σ H ⟨Pn, M0, M, ρ, I, z⟩
          exact z _ _ _ I
        · cases h }
  | .seq a b => {
      one := fun c h => by simp [chkSt, chk0] at h
      all := fun {sc E X l} c h => by
        unfold chkL at h
        split at h
        · rw [Bool.and_eq_true] at h
          refine PSs.mono (pss_cons ((semS G F k xc N a).one c h.1) ((semS G F k xc N b).all c h.2)) ?_
          rintro D σ H ⟨Pn, M0, M, ρ, I, z⟩
          exact ⟨Pn, M0, M, ρ, I, gd_seq z⟩
        · cases h }
  | .frz i s => SemT.mk1 (fun c h => sem_frz0 (semS G F k xc N s) c (by unfold chkSt at h; exact h)) fun sc l h => by
      unfold chkL at h
      split at h
      · exact ⟨_, rfl, by unfold chkSt; exact h⟩
      · cases h
  | .set i e => SemT.mk1 (fun c h => sem_set0 c h) fun sc l h => by
      unfold chkL at h
      split at h
      · exact ⟨_, rfl, by unfold chkSt; exact h⟩
      · cases h
  | .setO i e => SemT.mk1 (fun c h => sem_setO0 c h) fun sc l h => by
      unfold chkL at h
      split at h
      · exact ⟨_, rfl, by unfold chkSt; exact h⟩
      · cases h
  | .unp t e => SemT.mk1 (fun c h => sem_unp0 c h) fun sc l h => by
      unfold chkL at h
      split at h
      · exact ⟨_, rfl, by unfold chkSt; exact h⟩
      · cases h
  | .par i j a b => SemT.mk1 (fun c h => sem_par0 c h) fun sc l h => by
      unfold chkL at h
      split at h
      · exact ⟨_, rfl, by unfold chkSt; exact h⟩
      · cases h
  | .par3 i j k a b d => SemT.mk1 (fun c h => sem_par30 c h) fun sc l h => by
      unfold chkL at h
      split at h
      · exact ⟨_, rfl, by unfold chkSt; exact h⟩
      · cases h
  | .swp i a b => SemT.mk1 (fun c h => sem_swp0 c h) fun sc l h => by
      unfold chkL at h
      split at h
      · exact ⟨_, rfl, by unfold chkSt; exact h⟩
      · cases h
  | .grp fi xi si gi n t => SemT.mk1 (fun c h => sem_grp0 c h) fun sc l h => by
      unfold chkL at h
      split at h
      · exact ⟨_, rfl, by unfold chkSt; exact h⟩
      · cases h
  | .nev => SemT.mk1 (fun c h => sem_nev0 c h) fun sc l h => by
      unfold chkL at h
      split at h
      · exact ⟨_, rfl, by unfold chkSt; exact h⟩
      · cases h
  | .setIx i a b => SemT.mk1 (fun c h => sem_setIx0 c h) fun sc l h => by
      unfold chkL at h
      split at h
      · exact ⟨_, rfl, by unfold chkSt; exact h⟩
      · cases h
  | .app i e => SemT.mk1 (fun c h => sem_app0 c h) fun sc l h => by
      unfold chkL at h
      split at h
      · exact ⟨_, rfl, by unfold chkSt; exact h⟩
      · cases h
  | .ext i e => SemT.mk1 (fun c h => sem_ext0 c h) fun sc l h => by
      unfold chkL at h
      split at h
      · exact ⟨_, rfl, by unfold chkSt; exact h⟩
      · cases h
  | .pop0 t i => SemT.mk1 (fun c h => sem_pop00 c h) fun sc l h => by
      unfold chkL at h
      split at h
      · exact ⟨_, rfl, by unfold chkSt; exact h⟩
      · cases h
  | .iff c a b => SemT.mk1 (fun cx h => sem_iff0 (semS G F k xc N a) (semS G F k xc N b) cx (by unfold chkSt at h; exact h)) fun sc l h => by
      unfold chkL at h
      split at h
      · exact ⟨_, rfl, by unfold chkSt; exact h⟩
      · cases h
  | .whl c b => SemT.mk1 (fun cx h => sem_whl0 (semS G F k xc N b) cx (by unfold chkSt at h; exact h)) fun sc l h => by
      unfold chkL at h
      split at h
      · exact ⟨_, rfl, by unfold chkSt; exact h⟩
      · cases h
  | .for_ t s b => SemT.mk1 (fun cx h => sem_for0 (semS G F k xc N b) cx (by unfold chkSt at h; exact h)) fun sc l h => by
      unfold chkL at h
      split at h
      · exact ⟨_, rfl, by unfold chkSt; exact h⟩
      · cases h
  | .ret e => SemT.mk1 (fun c h => sem_ret0 c h) fun sc l h => by
      unfold chkL at h
      split at h
      · exact ⟨_, rfl, by unfold chkSt; exact h⟩
      · cases h
  | .retN => SemT.mk1 (fun c h => sem_retN0 c h) fun sc l h => by
      unfold chkL at h
      split at h
      · exact ⟨_, rfl, by unfold chkSt; exact h⟩
      · cases h
  | .rai c => {
      one := fun c h => by simp [chkSt, chk0] at h
      all := fun {sc E X l} c h => by
        unfold chkL at h
        split at h
        · simp [chkSt, chk0] at h
        · cases h }
  | .exp e => {
      one := fun c h => by simp [chkSt, chk0] at h
      all := fun {sc E X l} c h => by
        unfold chkL at h
        split at h
        · simp [chkSt, chk0] at h
        · cases h }
  | .cont => SemT.mk1 (fun c h => sem_cont0 c h) fun sc l h => by
      unfold chkL at h
      split at h
      · exact ⟨_, rfl, by unfold chkSt; exact h⟩
      · cases h
end
end Iv
end

section
/-! Iv8: defs; a law's end. -/
namespace Iv
open PySem L2 PyProof.Rows
variable [Tb]

def scopeB (N ps : List Str) (sc : Scope) : Bool :=
  decide (sc.kind = .function) && !sc.isCoroutine && !sc.isGenerator && decide N.Nodup && decide (N.take ps.length = ps) && (ps.all fun x => isLoc sc x) && sc.names.all fun y => !decide (y.2 = .free)
theorem scope_of {N ps : List Str} {sc : Scope} (h : scopeB N ps sc = true) : FnScope N ps sc := by
  unfold scopeB at h
  simp only [Bool.and_eq_true, decide_eq_true_eq, Bool.not_eq_true', List.all_eq_true, decide_eq_false_iff_not] at h
  obtain ⟨⟨⟨⟨⟨⟨h1, h2⟩, h3⟩, h4⟩, h5⟩, h6⟩, h7⟩ := h
  exact ⟨h1, h2, h3, h4, h5, fun x hx => isLoc_of (h6 x hx), fun y hy => h7 y hy⟩
/-- d is the text of the def st -/
def chkD (G : GI) (d : Def) (st : Stmt) : Bool := scopeB d.N (d.N.take d.nps) (defScope st) && decide (d.nps ≤ d.N.length) && chkL { G with lam := d.lam } d.N (defScope st) d.body (defBody st)
/-- the name of a def's lambdas -/
abbrev lamName (x : Str) : Str := (x ++ ".<locals>.") ++ "<lambda>"
/-- the code object cdv makes lambdas -/
def LamAt (mg : Str → Option Value) (base : Heap) (x : Str) (cdv : Value) : Prop := ∃ c P, cdv = .ref c ∧ LamX.TabB base mg c P ∧ (P, lamName x) ∈ Tb.T ∧ ∀ p ∈ Tb.T, p.1 = P → p.2 = lamName x
/-- a def that stands behind the top -/
structure DefOk (K : PySem.W.Frag) (mg : Str → Option Value) (base : Heap) (x : Str) (ps : List Str) (lam : Bool) (st : Stmt) : Prop where
  ex : ∃ (f : Addr) (oc : Value) (od : Option Addr) (kV doc pm : Value) (an : Option Addr) (cdv ct : Value) (osl : Array (Option Value)), mg x = some (.ref f) ∧ PySem.W.keepIn K (.ref f) = true ∧
    K.lookup f = some ⟨oc, od, .func (PySem.W.fnOf x x (defArgs st) (defBody st) (defScope st) .none kV doc pm an cdv ct), osl⟩ ∧ PySem.W.codeIn K cdv x = true ∧
    Binds K (PySem.W.fnOf x x (defArgs st) (defBody st) (defScope st) .none kV doc pm an cdv ct) ps [] ∧ (lam = true → LamAt mg base x cdv)
inductive AllOk (K : PySem.W.Frag) (mg : Str → Option Value) (base : Heap) (G : GI) : List Def → Prop
  | nil : AllOk K mg base G []
  | cons {d : Def} {ds : List Def} {st : Stmt} : DefOk K mg base d.name (d.N.take d.nps) d.lam st → chkD G d st = true → AllOk K mg base G ds → AllOk K mg base G (d :: ds)
theorem AllOk.find {K : PySem.W.Frag} {mg : Str → Option Value} {base : Heap} {G : GI} : ∀ {ds : List Def} {x : Str} {d : Def}, AllOk K mg base G ds → findD x ds = some d → ∃ st, d.name = x ∧ DefOk K mg base x (d.N.take d.nps) d.lam st ∧ chkD G d st = true
  | _ :: ds, x, d, .cons h1 h2 r, e => by
    unfold findD at e
    split at e
    · rename_i q
      cases e
      exact ⟨_, q, q ▸ h1, h2⟩
    · exact AllOk.find r e

theorem start_inv {K : PySem.W.Frag} {P : Program} {w : World} {H : Hp} {M : Addr → Prop} {N : List Str} {n : Nat} {vs : List V} {ds : List PyData} (mh : Mh H M) (tb : LamX.Tabs Tb.T H) (h : RpA K P w H M vs ds) (hl : vs.length = n) :
    SIv K P w (fun b o => H b = some o ∧ nt o) M M (L2.start N vs) H (ds.map .val ++ List.replicate (N.length - n) .nul) := by
  have hlen := h.length
  have cas : ∀ (i : Nat) (s : Slot), (ds.map Slot.val ++ List.replicate (N.length - n) Slot.nul)[i]? = some s → s ≠ .nul → ∃ d, ds[i]? = some d ∧ s = .val d := fun i s e hs => by
    rw [List.getElem?_append] at e
    split at e
    · rw [List.getElem?_map] at e
      cases q : ds[i]? with
      | none => rw [q] at e; cases e
      | some d => rw [q] at e; cases e; exact ⟨d, rfl, rfl⟩
    · rw [List.getElem?_replicate] at e
      split at e
      · cases e; exact (hs rfl).elim
      · cases e
  refine ⟨?_, fun i d e => ?_, fun i d e => ?_, fun i j d e a h1 => ?_, mh, fun _ z => z, fun _ _ z => z.1, fun _ z => .inl z, fun _ _ z => z.2, tb⟩
  · unfold L2.start
    rw [List.length_append, List.length_append, List.length_map, List.length_map, List.length_replicate, List.length_replicate, hlen, ← hl, hlen]
  · obtain ⟨d', e1, e2⟩ := cas i _ e (fun z => nomatch z)
    cases e2
    obtain ⟨v, h1, h2⟩ := h.get e1
    refine ⟨v, ?_, h2⟩
    unfold L2.start
    have hi : i < vs.length := (List.getElem?_eq_some_iff.mp h1).1
    rw [List.getElem?_append_left (by rw [List.length_map]; exact hi), List.getElem?_map, h1]; rfl
  · obtain ⟨_, _, e2⟩ := cas i _ e (fun z => nomatch z)
    cases e2
  · obtain ⟨_, _, e2⟩ := cas i _ h1 (fun z => nomatch z)
    cases e2

section
variable {K : PySem.W.Frag} {mg : Str → Option Value} {G : GI} {DS : List Def} {P : Program} {w : World} {base : Heap} {xc : Nat → Value}
theorem fns_ok (A : AllOk K mg base G DS) (hG : ∀ x ∈ G.fns, ∃ d, findD x DS = some d) (hb : ∀ x ∈ G.blt, mg x = none)
    (hc : ∀ p ∈ G.con, ∃ v u, mg p.1 = some u ∧ RelV v u ∧ ∀ (K : PySem.W.Frag) (P : Program) (w : World) (H : Hp) (M : Addr → Prop), Rp K P w H M v p.2) :
    ∀ (n : Nat) (x : Str) (d : Def), findD x DS = some d → ∃ f fd, mg x = some (.ref f) ∧ PySem.W.keepIn K (.ref f) = true ∧ Binds K fd (d.N.take d.nps) [] ∧ (d.N.take d.nps).length = d.nps ∧ (∃ oc od osl, K.lookup f = some ⟨oc, od, .func fd, osl⟩) ∧
      FnOk P w K mg base (L2.CX P w) (2 * n) f fd (d.N.take d.nps) (spOf K P w xc (d.N.take d.nps).length (runF DS n x)) := by
  intro n
  induction n with
  | zero =>
    intro x d hd
    obtain ⟨st, e, ⟨f, oc, od, kV, doc, pm, an, cdv, ct, osl, hm, kp, lk, hcd, hB, hL⟩, hk⟩ := A.find hd
    unfold chkD at hk
    simp only [Bool.and_eq_true, decide_eq_true_eq] at hk
    refine ⟨f, _, hm, kp, hB, by rw [List.length_take]; exact Nat.min_eq_left hk.1.2, ⟨_, _, _, lk⟩, fun vs H Q E h => h.1, fun A outer s H args us vs Q E hr e0 hb2 hv h => ?_⟩
    obtain ⟨_, M, ds, _, _, _, z⟩ := h
    exact (show False from z).elim
  | succ n ih =>
    intro x d hd
    obtain ⟨st, e, ⟨f, oc, od, kV, doc, pm, an, cdv, ct, osl, hm, kp, lk, hcd, hB, hL⟩, hk⟩ := A.find hd
    unfold chkD at hk
    simp only [Bool.and_eq_true, decide_eq_true_eq] at hk
    obtain ⟨⟨h1, h2⟩, h3⟩ := hk
    have hps : (d.N.take d.nps).length = d.nps := by rw [List.length_take]; exact Nat.min_eq_left h2
    refine ⟨f, _, hm, kp, hB, hps, ⟨_, _, _, lk⟩, fn_of lk hcd (scope_of h1) (fun vs H Q E h => h.1) fun A outer s H vs Q E hr h => ?_⟩
    obtain ⟨hl, M, ds, mh, tb, ra, z⟩ := h
    have hlen : ds.length = d.nps := by rw [← ra.length, hl, hps]
    have ctx : CxtS { G with lam := d.lam } (runF DS n) (2 * n) xc d.N (defScope st) E (cxOf (L2.CX P w) P w K mg base d.N x (defScope st) f cdv A outer s H E) := {
      names := rfl
      nd := (scope_of h1).nd
      scope := rfl
      calm := rfl
      fnb := fun _ _ => rfl
      fns := fun y hy => by
        obtain ⟨d', hd'⟩ := hG y hy
        obtain ⟨f', fd', q1, q2, q3, q4, _, q5⟩ := ih y d' hd'
        refine ⟨f', fd', _, q1, q2, q3, fun ds' z => ?_, q5⟩
        cases n with
        | zero => exact (z rfl).elim
        | succ m =>
          unfold runF at z
          rw [hd'] at z
          simp only at z
          by_cases q : ds'.length = d'.nps
          · rw [q, q4]
          · rw [if_neg q] at z; exact (z rfl).elim
      blt := hb
      con := hc
      room := by
        have hr' : Room (2 * n + 1) (A.deeper (envOfC x (defScope st) s.heap.objs.size f cdv)) := hr
        split
        · exact hr'
        · exact hr'.mono (by omega)
      lam := fun z => by
        obtain ⟨c, P0, q1, q2, q3, q4⟩ := hL z
        exact ⟨c, P0, q2, q1, q3, q4⟩
      pass := passes_call (takes_of rfl rfl rfl rfl) fun _ _ _ _ h => h
      pown := passes_of rfl
      takes := takes_of rfl rfl rfl rfl
      kind := (scope_of h1).kind }
    refine ⟨_, (semS { G with lam := d.lam } (runF DS n) (2 * n) xc d.N d.body).all ctx h3, _, M, M, _, start_inv (N := d.N) (n := d.nps) mh tb ra (by rw [hl, hps]), ?_⟩
    have z' : RP xc E H (toR (ex (runF DS n) d.body (ds.map .val ++ List.replicate (d.N.length - d.nps) .nul))) (fun d => ∀ v H', Sm H H' → Rp K P w H' M v d → Q v H') := by
      unfold runF at z
      rw [hd] at z
      simp only at z
      rw [if_pos hlen] at z
      exact z
    cases q : ex (runF DS n) d.body (ds.map .val ++ List.replicate (d.N.length - d.nps) .nul) with
    | nx ρ => rw [q] at z'; exact fun M' σ' H' I => z' _ H' ⟨fun b o e n => I.pin b o ⟨e, n⟩, fun _ => I.tb⟩ .non
    | rt r => rw [q] at z'; exact fun v H' p r => z' v H' ⟨fun b o e n => p.pin b o ⟨e, n⟩, fun _ => p.tb⟩ r
    | exc c => rw [q] at z'; exact fun H' p => z' H' ⟨fun b o e n => p.pin b o ⟨e, n⟩, fun _ => p.tb⟩
    | ct ρ => rw [q] at z'; exact (show False from z').elim
    | bk ρ => rw [q] at z'; exact (show False from z').elim
    | bad => rw [q] at z'; exact z'
end

/-- the promise of a law -/
def spLaw (K : PySem.W.Frag) (P : Program) (w : World) (xc : Nat → Value) (DS : List Def) (n : Nat) : Sp := spOf K P w xc 1 (runF DS n "law")
theorem law_sp {K : PySem.W.Frag} {P : Program} {w : World} {xc : Nat → Value} {DS : List Def} {n : Nat} (hlaw : ∀ ns : List Int, ns.length ≤ 63 → runF DS n "law" [scriptD ns] = .ok (.bool true))
    (H : Hp) (a : Addr) (ns : List Int) (hl : ns.length ≤ 63) (tb : LamX.Tabs Tb.T H) (hS : SqL K H a (ns.map V.int)) : spLaw K P w xc DS n [.ref a] H (fun v _ => v = .bl true) fun _ _ _ => False := by
  refine ⟨rfl, fun _ => False, [scriptD ns], fun _ z => z.elim, tb, .cons (.scr ?_) .nil, ?_⟩
  · rcases hS with h | h
    · rcases h with h | ⟨ob, h⟩
      · exact .inr (.inr ⟨h, fun z => z⟩)
      · exact .inl ⟨ob, h⟩
    · exact .inr (.inl (.inr h))
  · rw [hlaw ns hl]
    intro v H' _ h
    cases h; rfl
omit [Tb] in
theorem law_cx {P : Program} {w : World} {H : Hp} {s : Shared} {e : Value} {s' : Shared} (h : L2.CX P w [] H s (fun _ _ _ => False) e s') : False := by
  obtain ⟨_, _, _, _, _, _, _, _, _, _, _, _, z⟩ := h
  exact z.elim
/-- one def's facts -/
theorem def_mk {K : PySem.W.Frag} {h base : Heap} {mg : Str → Option Value} {x : Str} {st : Stmt} {f : Addr} {ps : List Str} {lam : Bool} (X : K.In h) (Gn : h.Ns mainGlobals mg) {od an : Option Addr} {sl : Array (Option Value)} {oc kV dc pm cd ct : Value}
    (a : PySem.W.nsIn K mainGlobals x = some (some (.ref f))) (l : K.lookup f = some ⟨oc, od, .func (PySem.W.fnOf x x (defArgs st) (defBody st) (defScope st) .none kV dc pm an cd ct), sl⟩) (c : PySem.W.codeIn K cd x = true) (kp : PySem.W.keepIn K (.ref f) = true)
    (b : ∀ (kV doc pm : Value) (an : Option Addr) (cdv ct : Value) (us : List Value), us.length = ps.length → bindArgs (PySem.W.fnOf x x (defArgs st) (defBody st) (defScope st) .none kV doc pm an cdv ct) ⟨us, []⟩ = pure (ps.zip us))
    (lm : lam = true → LamAt mg base x cd) : DefOk K mg base x ps lam st :=
  ⟨_, _, _, _, _, _, _, _, _, _, PySem.W.mg_of X Gn a, kp, l, c, (fun_mk l c kp).binds b, lm⟩
end Iv
end

section
/-! Iv9: the whole of a law from its head's facts. -/
namespace Iv
open PySem L2 PyProof.Rows

/-! ### what a law's top holds -/
def defD (x : Str) (st : Stmt) : He.DefD := ⟨(x, none), x, x, defArgs st, defBody st, defScope st, [], []⟩
def conFa : Str × PyData → He.Fa
  | (x, .int i) => .int x i
  | (x, .str z) => .str x z
  | (x, _) => .keep x
def conFlat : Str × PyData → Bool
  | (_, .int _) => true
  | (_, .str _) => true
  | _ => false
def fasOf (rows : List (Def × Stmt)) (blt : List Str) (con : List (Str × PyData)) : List He.Fa := rows.map (fun r => .glo r.1.name) ++ (blt.map .free ++ con.map conFa)
def fnsOf (rows : List (Def × Stmt)) : List He.DefD := rows.map fun r => defD r.1.name r.2
def tfOf (rows : List (Def × Stmt)) : List He.Defn := (rows.filter fun r => r.1.lam).map fun r => (r.1.name, none)
def exB (tf : List He.Defn) (K : PySem.W.Frag) : Bool := decide ((tf.map fun p => (He.cT K p).2).Nodup)
def GOf (rows : List (Def × Stmt)) (blt : List Str) (con : List (Str × PyData)) : GI := { fns := rows.map fun r => r.1.name, blt := blt, con := con }
def chkAll (rows : List (Def × Stmt)) (blt : List Str) (con : List (Str × PyData)) : Bool := (rows.all fun r => chkD (GOf rows blt con) r.1 r.2) && con.all conFlat && (match findD "law" (rows.map (·.1)) with
  | some d => decide (d.nps = 1) && decide (d.N.take 1 = [("_law_script" : Str)])
  | none => false)
/-- the parameters of each def are bound in their order -/
inductive BindAll : List (Def × Stmt) → Prop
  | nil : BindAll []
  | cons {d : Def} {st : Stmt} {r : List (Def × Stmt)} : (∀ (kV doc pm : Value) (an : Option Addr) (cdv ct : Value) (us : List Value), us.length = (d.N.take d.nps).length →
      bindArgs (PySem.W.fnOf d.name d.name (defArgs st) (defBody st) (defScope st) .none kV doc pm an cdv ct) ⟨us, []⟩ = pure ((d.N.take d.nps).zip us)) → BindAll r → BindAll ((d, st) :: r)
@[reducible] def tbOf (tf : List He.Defn) (K : PySem.W.Frag) : Tb := ⟨tf.map fun p => ((He.cT K p).2, lamName p.1)⟩

theorem nodup_map {α β : Type} {f : α → β} : ∀ {l : List α}, (l.map f).Nodup → ∀ a ∈ l, ∀ b ∈ l, f a = f b → a = b
  | [], _, _, h, _, _, _ => by cases h
  | x :: r, hn, a, ha, b, hb, e => by
    rw [List.map_cons, List.nodup_cons] at hn
    rcases List.mem_cons.mp ha with e1 | ha
    · rcases List.mem_cons.mp hb with e2 | hb
      · rw [e1, e2]
      · exact (hn.1 (by rw [← e1, e]; exact List.mem_map_of_mem hb)).elim
    · rcases List.mem_cons.mp hb with e2 | hb
      · exact (hn.1 (by rw [← e2, ← e]; exact List.mem_map_of_mem ha)).elim
      · exact nodup_map hn.2 a ha b hb e
theorem findD_mem : ∀ {ds : List Def} {x : Str}, x ∈ ds.map (fun d => d.name) → ∃ d, findD x ds = some d
  | d :: ds, x, h => by
    unfold findD
    by_cases e : d.name = x
    · exact ⟨d, by rw [if_pos e]⟩
    · rw [if_neg e]
      rw [List.map_cons] at h
      rcases List.mem_cons.mp h with q | q
      · exact (e q.symm).elim
      · exact findD_mem q
theorem findD_in : ∀ {ds : List Def} {x : Str} {d : Def}, findD x ds = some d → d ∈ ds ∧ d.name = x
  | a :: ds, x, d, h => by
    unfold findD at h
    split at h
    · rename_i q
      cases h
      exact ⟨.head _, q⟩
    · obtain ⟨h1, h2⟩ := findD_in h
      exact ⟨.tail _ h1, h2⟩

section
variable {rows : List (Def × Stmt)} {blt : List Str} {con : List (Str × PyData)} {w : World} {h base : Heap} {K : PySem.W.Frag} {mg : Str → Option Value}
theorem row_ok {tf : List He.Defn} {fa : List He.Fa} {fn : List He.DefD} {ex : PySem.W.Frag → Bool} (c : He.SaysX fa fn [] tf ex w h K) (KX : K.In h) (G : h.Ns mainGlobals mg) (htf : (tf.map fun p => (He.cT K p).2).Nodup)
    (TB : ∀ p ∈ tf, LamX.TabB base mg (He.cT K p).1 (He.cT K p).2) {d : Def} {st : Stmt} (h1 : He.Fa.glo d.name ∈ fa) (h2 : defD d.name st ∈ fn) (h3 : d.lam = true → (d.name, none) ∈ tf)
    (b : ∀ (kV doc pm : Value) (an : Option Addr) (cdv ct : Value) (us : List Value), us.length = (d.N.take d.nps).length →
      bindArgs (PySem.W.fnOf d.name d.name (defArgs st) (defBody st) (defScope st) .none kV doc pm an cdv ct) ⟨us, []⟩ = pure ((d.N.take d.nps).zip us)) :
    @DefOk (tbOf tf K) K mg base d.name (d.N.take d.nps) d.lam st := by
  obtain ⟨fd, F⟩ := c.t.d.defs h2
  obtain ⟨oc, od, dV, kV, doc, pm, an, cdv, ct, osl, rfl, lk, hcd, hD, hK⟩ := F.ex
  rcases hD with ⟨_, rfl⟩ | ⟨e, _⟩
  · letI : Tb := tbOf tf K
    have hm := He.glo_ok KX G (c.t.d.facts h1)
    refine ⟨_, oc, od, kV, doc, pm, an, cdv, ct, osl, hm, F.kp, lk, hcd, .all (b kV doc pm an cdv ct), fun hl => ?_⟩
    obtain ⟨cc, rfl⟩ := He.codeIn_ref hcd
    have hc : He.codeOf K (d.name, none) = cc := He.codeOf_eq lk rfl
    refine ⟨cc, (He.cT K (d.name, none)).2, rfl, ?_, List.mem_map.mpr ⟨_, h3 hl, rfl⟩, fun p hp e => ?_⟩
    · have := TB _ (h3 hl)
      have e : (He.cT K (d.name, none)).1 = cc := hc
      rw [e] at this
      exact this
    · obtain ⟨q, hq, rfl⟩ := List.mem_map.mp hp
      have := nodup_map htf q hq _ (h3 hl) e
      subst this
      rfl
  · exact absurd rfl e
theorem all_ok {tf : List He.Defn} {fa : List He.Fa} {fn : List He.DefD} {ex : PySem.W.Frag → Bool} {GG : GI} (c : He.SaysX fa fn [] tf ex w h K) (KX : K.In h) (G : h.Ns mainGlobals mg) (htf : (tf.map fun p => (He.cT K p).2).Nodup)
    (TB : ∀ p ∈ tf, LamX.TabB base mg (He.cT K p).1 (He.cT K p).2) : ∀ {rows : List (Def × Stmt)}, BindAll rows → (∀ r ∈ rows, He.Fa.glo r.1.name ∈ fa ∧ defD r.1.name r.2 ∈ fn ∧ (r.1.lam = true → (r.1.name, none) ∈ tf) ∧ chkD GG r.1 r.2 = true) →
    @AllOk (tbOf tf K) K mg base GG (rows.map (·.1))
  | _, .nil, _ => @AllOk.nil (tbOf tf K) K mg base GG
  | _, .cons (d := d) (st := st) b r, hr => by
    obtain ⟨h1, h2, h3, h4⟩ := hr (d, st) (.head _)
    exact @AllOk.cons (tbOf tf K) K mg base GG _ _ _ (row_ok c KX G htf TB h1 h2 h3 b) h4 (all_ok c KX G htf TB r fun q hq => hr q (.tail _ hq))
theorem con_ok {fa : List He.Fa} {fn : List He.DefD} (c : He.SaysD fa fn K) (KX : K.In h) (G : h.Ns mainGlobals mg) {p : Str × PyData} (hp : conFa p ∈ fa) (hf : conFlat p = true) :
    ∃ v u, mg p.1 = some u ∧ RelV v u ∧ ∀ (K : PySem.W.Frag) (P : Program) (w : World) (H : Hp) (M : Addr → Prop), Rp K P w H M v p.2 := by
  obtain ⟨x, d⟩ := p
  cases d with
  | int i =>
    obtain ⟨t, e⟩ := He.int_ok KX G (c.facts hp)
    exact ⟨.int i, _, e, ⟨t, rfl⟩, fun _ _ _ _ _ => .int i⟩
  | str z =>
    obtain ⟨t, e⟩ := He.str_ok KX G (c.facts hp)
    exact ⟨.str z, _, e, ⟨t, rfl⟩, fun _ _ _ _ _ => .str z⟩
  | _ => cases hf
/-- THE END: the head's facts, the texts' check, and the plain law -/
theorem law_end {l : PySem.W.OpenLaw} {n : Nat} {fa : Addr} (c : He.SaysX (fasOf rows blt con) (fnsOf rows) [] (tfOf rows) (exB (tfOf rows)) w h K) (KX : K.In h) (G : h.Ns mainGlobals mg) (hmg : mg "law" = some (.ref fa))
    (hk : chkAll rows blt con = true) (hB : BindAll rows) (hlaw : ∀ ns : List Int, ns.length ≤ 63 → runF (rows.map (·.1)) n "law" [scriptD ns] = .ok (.bool true)) :
    LamX.LawAtS l w K (L2.CX l.prog w) (2 * n) 63 "_law_script" mg fa h := by
  unfold chkAll at hk
  simp only [Bool.and_eq_true] at hk
  obtain ⟨⟨k1, k2⟩, k3⟩ := hk
  have htf : ((tfOf rows).map fun p => (He.cT K p).2).Nodup := of_decide_eq_true c.more
  split at k3
  · rename_i d hd
    simp only [Bool.and_eq_true, decide_eq_true_eq] at k3
    obtain ⟨k3, k4⟩ := k3
    have mem : ∀ r ∈ rows, He.Fa.glo r.1.name ∈ fasOf rows blt con ∧ defD r.1.name r.2 ∈ fnsOf rows ∧ (r.1.lam = true → (r.1.name, none) ∈ tfOf rows) ∧ chkD (GOf rows blt con) r.1 r.2 = true := fun r hr =>
      ⟨List.mem_append_left _ (List.mem_map.mpr ⟨r, hr, rfl⟩), List.mem_map.mpr ⟨r, hr, rfl⟩, fun hl => List.mem_map.mpr ⟨r, List.mem_filter.mpr ⟨hr, hl⟩, rfl⟩, List.all_eq_true.mp k1 r hr⟩
    letI : Tb := tbOf (tfOf rows) K
    have A := fun (base : Heap) (TB : ∀ p ∈ tfOf rows, LamX.TabB base mg (He.cT K p).1 (He.cT K p).2) => all_ok (GG := GOf rows blt con) (base := base) c KX G htf TB hB mem
    have hG : ∀ x ∈ (GOf rows blt con).fns, ∃ d, findD x (rows.map (·.1)) = some d := fun x hx => findD_mem (by
      rw [List.map_map]; exact hx)
    have hb : ∀ x ∈ (GOf rows blt con).blt, mg x = none := fun x hx => He.free_ok KX G (c.t.d.facts (List.mem_append_right _ (List.mem_append_left _ (List.mem_map.mpr ⟨x, hx, rfl⟩))))
    have hc : ∀ p ∈ (GOf rows blt con).con, ∃ v u, mg p.1 = some u ∧ RelV v u ∧ ∀ (K : PySem.W.Frag) (P : Program) (w : World) (H : Hp) (M : Addr → Prop), Rp K P w H M v p.2 := fun p hp =>
      con_ok c.t.d KX G (List.mem_append_right _ (List.mem_append_right _ (List.mem_map.mpr ⟨p, hp, rfl⟩))) (List.all_eq_true.mp k2 p hp)
    obtain ⟨q1, q2⟩ := findD_in hd
    obtain ⟨⟨d', st⟩, hr, rfl⟩ := List.mem_map.mp q1
    obtain ⟨m1, m2, m3, m4⟩ := mem _ hr
    obtain ⟨fd, F⟩ := c.t.d.defs m2
    have hm := He.glo_ok KX G (c.t.d.facts m1)
    have bnd : ∀ {rows : List (Def × Stmt)}, BindAll rows → ∀ d st, (d, st) ∈ rows → ∀ (kV doc pm : Value) (an : Option Addr) (cdv ct : Value) (us : List Value), us.length = (d.N.take d.nps).length →
        bindArgs (PySem.W.fnOf d.name d.name (defArgs st) (defBody st) (defScope st) .none kV doc pm an cdv ct) ⟨us, []⟩ = pure ((d.N.take d.nps).zip us) := by
      intro rows hB
      induction hB with
      | nil => intro d st h; cases h
      | cons b r ih =>
        intro d st h
        rcases List.mem_cons.mp h with e | h
        · cases e; exact b
        · exact ih d st h
    have hbA := FunD.bindsA F (bnd hB _ _ hr)
    have hne : (mg "law" : Option Value) = some (.ref (He.ga K d'.name)) := by
      have : d'.name = ("law" : Str) := q2
      rw [← this]; exact hm
    rw [hmg] at hne
    cases hne
    have hlen : d'.N.take d'.nps = [("_law_script" : Str)] := by
      have : d'.nps = 1 := k3
      rw [this]; exact k4
    refine ⟨fd, (tfOf rows).map (He.cT K), spLaw K l.prog w (fun _ => .none) (rows.map (·.1)) n, fun p hp => ?_, fun p hp => ?_, fun p hp => ?_, fun s u => ?_, fun H a ns hl _ hT hS => law_sp hlaw H a ns hl (fun p hp => ?_) hS, fun base KB GB TB => ?_⟩
    · obtain ⟨q, hq, rfl⟩ := List.mem_map.mp hp
      exact c.empty q hq
    · obtain ⟨q, hq, rfl⟩ := List.mem_map.mp hp
      exact c.out q hq
    · obtain ⟨q, hq, rfl⟩ := List.mem_map.mp hp
      exact PySem.W.codeHd_of_K KX (c.hd q hq)
    · have := hbA s [u] (by rw [hlen]; rfl)
      rw [hlen] at this
      exact this
    · obtain ⟨q, hq, rfl⟩ := List.mem_map.mp hp
      exact LamX.TabS.nil (hT _ (List.mem_map.mpr ⟨q, hq, rfl⟩))
    · obtain ⟨f, fd', e1, e2, e3, e4, ⟨_, _, _, e6⟩, e5⟩ := fns_ok (P := l.prog) (w := w) (xc := fun _ => .none) (A base fun p hp => TB _ (List.mem_map.mpr ⟨p, hp, rfl⟩)) hG hb hc n "law" d' hd
      rw [hmg] at e1
      cases e1
      rw [hlen] at e5
      obtain ⟨_, _, _, _, _, _, _, _, _, _, _, lk, _⟩ := F.ex
      have e7 : some _ = some _ := e6.symm.trans lk
      cases e7
      exact e5
  · cases k3
end
end Iv
end

section
/-! Pv1: the plain evaluator in a form that simp can run. -/
namespace Iv
open PySem
/-- a whole number from 0 on; below 0 -/
def nI (n : Nat) : PyData := .int (n : Int)
def nJ (n : Nat) : PyData := .int (-(n : Int))
def bD (b : Bool) : PyData := .bool b
def dI (l : List Nat) : PyData := .tuple (l.map nI)
def lI (l : List Nat) : PyData := .list (l.map nI)

section
variable {F : Str → List PyData → R PyData} {m : Bool} {ρ : Env}
/-! ### the parts that look at a datum -/
def pneg : PyData → R PyData
  | .int i => .ok (.int (-i))
  | _ => .bad
def prev : PyData → R PyData
  | .tuple xs => .ok (.tuple xs.reverse) | .list xs => .ok (.list xs.reverse) | _ => .bad
def prng (tp : Bool) : PyData → R PyData
  | .int n => if n < (LIM : Nat) ∧ -(LIM : Int) < n then .ok (if tp then .tuple (rangeL 0 n.toNat) else .list (rangeL 0 n.toNat)) else .bad
  | _ => .bad
def psrc : PyData → R (List PyData)
  | .list ds => .ok ds | .tuple ds => .ok ds | _ => .bad
def psrcO : PyData → R (List PyData)
  | .list ds => .ok ds | _ => .bad
def psrc1 : PyData → R (List PyData)
  | .int n => if n < (LIM : Nat) ∧ -(LIM : Int) < n then .ok (rangeL 0 n.toNat) else .bad | _ => .bad
def psrc2 : PyData → PyData → R (List PyData)
  | .int i, .int j => if i < (LIM : Nat) ∧ -(LIM : Int) < i ∧ j < (LIM : Nat) ∧ -(LIM : Int) < j then .ok (rangeL i (j - i).toNat) else .bad
  | _, _ => .bad
def penum : PyData → R (List PyData)
  | .list ds => .ok ((List.range ds.length).zipWith (fun i d => .tuple [.int (i : Nat), d]) ds)
  | .tuple ds => .ok ((List.range ds.length).zipWith (fun i d => .tuple [.int (i : Nat), d]) ds)
  | _ => .bad
def pzip : PyData → PyData → R (List PyData)
  | .list xs, .list ys => .ok (xs.zipWith (fun p q => .tuple [p, q]) ys)
  | .tuple xs, .tuple ys => .ok (xs.zipWith (fun p q => .tuple [p, q]) ys)
  | _, _ => .bad
def pss : PyData → R PyData
  | .list ds => (match intsOf ds with | some ns => if ns.length ≤ 4000 then .ok (.list ((sortSet ns).map .int)) else .bad | none => .bad)
  | .tuple ds => (match intsOf ds with | some ns => if ns.length ≤ 4000 then .ok (.list ((sortSet ns).map .int)) else .bad | none => .bad)
  | _ => .bad
def plo : PyData → R (Option Int)
  | .int i => .ok (some i) | _ => .bad
/-- a comprehension over items -/
def cmpr (b : PyData → R (Option PyData)) (xs : List PyData) : R PyData := (if xs.length < LIM then (compL b xs).bind fun ys => .ok (.list ys) else .bad).nox
def gd (k : Bool) (r : R PyData) : R (Option PyData) := if k then r.bind fun y => .ok (some y) else .ok none

theorem v_c (d : PyData) : ev F m (.c d) ρ = .ok d := by rw [ev]
theorem v_g (x : Str) (d : PyData) : ev F m (.g x d) ρ = .ok d := by rw [ev]
theorem v_v (i : Nat) : ev F m (.v i) ρ = rdS m ρ[i]? := by rw [ev]
theorem v_bin (op : Bop) (a b : E) : ev F m (.bin op a b) ρ = (ev F true a ρ).bind fun x => (ev F true b ρ).bind fun y => pbin op x y := by rw [ev]
theorem v_neg (a : E) : ev F m (.neg a) ρ = (ev F true a ρ).bind pneg := by rw [ev]; rfl
theorem v_cmp (op : Cop) (a b : E) : ev F m (.cmp op a b) ρ = (ev F true a ρ).bind fun x => (ev F true b ρ).bind fun y => (pcmp op x y).bind fun k => .ok (.bool k) := by rw [ev]
theorem v_chain (o1 o2 : Cop) (a b c : E) : ev F m (.chain o1 o2 a b c) ρ = (ev F true a ρ).bind fun x => (ev F true b ρ).bind fun y => (pcmp o1 x y).bind fun k =>
      bif k then (ev F true c ρ).bind fun z => (pcmp o2 y z).bind fun k2 => .ok (.bool k2) else .ok (.bool false) := by
  rw [ev]
  refine congrArg _ (funext fun x => congrArg _ (funext fun y => congrArg _ (funext fun k => ?_)))
  cases k <;> rfl
theorem v_and (a b : E) : ev F m (.and a b) ρ = (ev F false a ρ).bind fun x => (asB x).bind fun k => bif k then (ev F false b ρ).bind fun y => (asB y).bind fun k2 => .ok (.bool k2) else .ok (.bool false) := by
  rw [ev]
  refine congrArg _ (funext fun x => congrArg _ (funext fun k => ?_))
  cases k <;> rfl
theorem v_or (a b : E) : ev F m (.or a b) ρ = (ev F false a ρ).bind fun x => (asB x).bind fun k => bif k then .ok (.bool true) else (ev F false b ρ).bind fun y => (asB y).bind fun k2 => .ok (.bool k2) := by
  rw [ev]
  refine congrArg _ (funext fun x => congrArg _ (funext fun k => ?_))
  cases k <;> rfl
theorem cond_b1 (k p : Bool) : (bif k then R.ok (PyData.bool p) else R.ok (PyData.bool false)) = R.ok (PyData.bool (k && p)) := by cases k <;> rfl
theorem cond_b2 (k p : Bool) : (bif k then R.ok (PyData.bool true) else R.ok (PyData.bool p)) = R.ok (PyData.bool (k || p)) := by cases k <;> rfl
theorem v_not (a : E) : ev F m (.not a) ρ = (ev F false a ρ).bind fun x => (asB x).bind fun k => .ok (.bool (!k)) := by rw [ev]
theorem v_ix (a b : E) : ev F m (.ix a b) ρ = (ev F true a ρ).bind fun x => (ev F true b ρ).bind fun y => pix x y := by rw [ev]
theorem v_sl (a : E) (lo hi : Oe) : ev F m (.sl a lo hi) ρ = (ev F true a ρ).bind fun x => (evo F lo ρ).bind fun l => (evo F hi ρ).bind fun h => psl x l h := by rw [ev]
theorem v_rev (a : E) : ev F m (.rev a) ρ = (ev F true a ρ).bind prev := by rw [ev]; rfl
theorem v_tup (es : Es) : ev F m (.tup es) ρ = (evs F es ρ).bind fun xs => .ok (.tuple xs) := by rw [ev]
theorem v_lst (es : Es) : ev F m (.lst es) ρ = (evs F es ρ).bind fun xs => .ok (.list xs) := by rw [ev]
theorem v_call (x : Str) (es : Es) : ev F m (.call x es) ρ = (evs F es ρ).bind fun xs => F x xs := by rw [ev]
theorem v_bi (b : Bi) (es : Es) : ev F m (.bi b es) ρ = (evr F es ρ).bind fun xs => pbi b xs := by rw [ev]
theorem v_rng (tp : Bool) (a : E) : ev F m (.rng tp a) ρ = (ev F true a ρ).bind (prng tp) := by rw [ev]; rfl
theorem v_srtSet (a : E) : ev F m (.srtSet a) ρ = (ev F true a ρ).bind pss := by rw [ev]; rfl
theorem v_meth (k : Me) (o : E) (es : Es) : ev F m (.meth k o es) ρ = (ev F true o ρ).bind fun x => bif meOk k x then (evs F es ρ).bind fun xs => pmeth k x xs else .bad := by
  rw [ev]
  refine congrArg _ (funext fun x => ?_)
  cases meOk k x <;> rfl
theorem v_isi (a : E) (t : Ty) : ev F m (.isi a t) ρ = (ev F true a ρ).bind fun x => (pisi x t).bind fun k => .ok (.bool k) := by rw [ev]
/-- sorted(range(n), key=lambda i: ..) -/
def psk (key : Nat → R PyData) : PyData → R PyData
  | .int n => if 0 ≤ n ∧ n < (LIM : Nat) ∧ (List.range n.toNat).all (fun j => (keyN (key j)).isSome) = true then
      .ok (.list (srtBy n.toNat fun j => (keyN (key j)).getD 0)) else .bad
  | _ => .bad
theorem v_srtKey (a : E) (i : Nat) (b : E) : ev F m (.srtKey a i b) ρ = (ev F true a ρ).bind (psk fun j => ev F false b (ρ.set i (.val (nI j)))) := by rw [ev]; rfl
theorem v_dnew (tk : Bool) : ev F m (.dnew tk) ρ = .ok (bif tk then dictT [] else dictK []) := by rw [ev]; cases tk <;> rfl
theorem vs_nil : evs F .nil ρ = .ok [] := by rw [evs]
theorem vs_cons (e : E) (es : Es) : evs F (.cons e es) ρ = (ev F false e ρ).bind fun x => (evs F es ρ).bind fun xs => .ok (x :: xs) := by rw [evs]
theorem vr_nil : evr F .nil ρ = .ok [] := by rw [evr]
theorem vr_cons (e : E) (es : Es) : evr F (.cons e es) ρ = (ev F true e ρ).bind fun x => (evr F es ρ).bind fun xs => .ok (x :: xs) := by rw [evr]
theorem vo_no : evo F .no ρ = .ok none := by rw [evo]
theorem vo_so (e : E) : evo F (.so e) ρ = (ev F true e ρ).bind plo := by rw [evo]; rfl
theorem vc_e (a : E) : esrc F (.e a) ρ = (ev F false a ρ).bind psrc := by rw [esrc]; rfl
theorem vc_own (i : Nat) : esrc F (.own i) ρ = (rdS true ρ[i]?).bind psrcO := by rw [esrc]; rfl
theorem vc_1 (a : E) : esrc F (.r1 a) ρ = (ev F true a ρ).bind psrc1 := by rw [esrc]; rfl
theorem vc_2 (a b : E) : esrc F (.r2 a b) ρ = (ev F true a ρ).bind fun x => (ev F true b ρ).bind fun y => psrc2 x y := by rw [esrc]; rfl
theorem vc_en (a : E) : esrc F (.enum a) ρ = (ev F false a ρ).bind penum := by rw [esrc]; rfl
theorem vc_zip (a b : E) : esrc F (.zip a b) ρ = (ev F false a ρ).bind fun x => (ev F false b ρ).bind fun y => pzip x y := by rw [esrc]; rfl
/-- comprehensions -/
theorem wipe1 (i : Nat) (x : PyData) : (wipeE ρ [i]).set i (.val x) = ρ.set i (.val x) := by
  show (ρ.set i .nul).set i _ = _
  rw [List.set_set]
theorem v_comp1 (i : Nat) (s : Src) (e : E) : ev F m (.comp (.nm i) s .no e [i]) ρ = (esrc F s ρ).nox.bind fun xs => cmpr (fun x => gd true (ev F false e (ρ.set i (.val x)))) xs := by
  rw [ev]
  cases h : esrc F s ρ with
  | ok xs =>
    rw [R.bind_ok, R.nox_ok, R.bind_ok]
    unfold cmpr
    refine congrArg _ (congrArg (fun z => if xs.length < LIM then (compL z xs).bind fun ys => R.ok (PyData.list ys) else .bad) (funext fun x => ?_))
    show (match some ((wipeE ρ [i]).set i (Slot.val x)) with | none => R.bad | some ρ1 => (evc F .no ρ1).bind fun k => if k = true then (ev F false e ρ1).bind fun y => .ok (some y) else .ok none) = _
    rw [wipe1]
    show (evc F .no _).bind _ = _
    rw [evc, R.bind_ok]
    rfl
  | exc c => rfl
  | bad => rfl
theorem v_comp1c (i : Nat) (s : Src) (c e : E) : ev F m (.comp (.nm i) s (.so c) e [i]) ρ = (esrc F s ρ).nox.bind fun xs => cmpr (fun x => ((ev F false c (ρ.set i (.val x))).bind asB).bind fun k => gd k (ev F false e (ρ.set i (.val x)))) xs := by
  rw [ev]
  cases h : esrc F s ρ with
  | ok xs =>
    rw [R.bind_ok, R.nox_ok, R.bind_ok]
    unfold cmpr
    refine congrArg _ (congrArg (fun z => if xs.length < LIM then (compL z xs).bind fun ys => R.ok (PyData.list ys) else .bad) (funext fun x => ?_))
    show (match some ((wipeE ρ [i]).set i (Slot.val x)) with | none => R.bad | some ρ1 => (evc F (.so c) ρ1).bind fun k => if k = true then (ev F false e ρ1).bind fun y => .ok (some y) else .ok none) = _
    rw [wipe1]
    show (evc F (.so c) _).bind _ = _
    rw [evc]
    rfl
  | exc c => rfl
  | bad => rfl
theorem v_comp2 (i j : Nat) (s : Src) (e : E) : ev F m (.comp (.tup (.cons (.nm i) (.cons (.nm j) .nil))) s .no e [i, j]) ρ = (esrc F s ρ).nox.bind fun xs => cmpr (fun x => match x with
    | .tuple [a, b] => gd true (ev F false e (((((ρ.set j .nul).set i .nul).set i (.val a)).set j (.val b)))) | _ => .bad) xs := by
  rw [ev]
  cases h : esrc F s ρ with
  | ok xs =>
    rw [R.bind_ok, R.nox_ok, R.bind_ok]
    unfold cmpr
    refine congrArg _ (congrArg (fun z => if xs.length < LIM then (compL z xs).bind fun ys => R.ok (PyData.list ys) else .bad) (funext fun x => ?_))
    split
    · rename_i h
      split
      · cases h
      · rfl
    · rename_i h
      split
      · cases h
        rw [evc, R.bind_ok]
        rfl
      · rename_i h2
        exfalso
        rename_i ρ1
        cases x with
        | tuple ds =>
          match ds, h, h2 with
          | [], h, _ => cases h
          | [_], h, _ => cases h
          | [a, b], _, h2 => exact h2 a b rfl
          | _ :: _ :: _ :: _, h, _ => cases h
        | _ => cases h
  | exc c => rfl
  | bad => rfl
end
/-! ### statements -/
def onx (o : Option Env) (f : Env → Fl) : Fl := match o with
  | some ρ => f ρ
  | none => .bad
@[simp] theorem onx_s (ρ : Env) (f : Env → Fl) : onx (some ρ) f = f ρ := Eq.trans rfl rfl
section
variable {F : Str → List PyData → R PyData} {ρ : Env}
theorem x_pass : ex F .pass ρ = .nx ρ := by rw [ex]
/-- what follows, not to be looked into -/
def kS (F : Str → List PyData → R PyData) (b : S) (ρ : Env) : Fl := ex F b ρ
def forS (F : Str → List PyData → R PyData) (t : T) (b : S) (xs : List PyData) (ρ : Env) : Fl := forL (fun x ρ => onx (bindT t x ρ) fun ρ1 => ex F b ρ1) xs ρ
def kFor (F : Str → List PyData → R PyData) (t : T) (b : S) (ρ : Env) (xs : List PyData) : Fl := forS F t b xs ρ
def whlS (F : Str → List PyData → R PyData) (c : E) (b : S) (n : Nat) (ρ : Env) : Fl := whileL (fun ρ => (ev F false c ρ).bind asB) (fun ρ => ex F b ρ) n ρ
theorem x_seq (a b : S) : ex F (.seq a b) ρ = (ex F a ρ).then (kS F b) := by rw [ex]; rfl
theorem then_kS (ρ : Env) (b : S) : (Fl.nx ρ).then (kS F b) = ex F b ρ := Eq.trans rfl rfl
theorem fl_kFor (t : T) (b : S) (xs : List PyData) : kFor F t b ρ xs = forS F t b xs ρ := Eq.trans rfl rfl
theorem x_frz (i : Nat) (s : S) : ex F (.frz i s) ρ = ex F s (frzE ρ i) := by rw [ex]
theorem x_set (i : Nat) (e : E) : ex F (.set i e) ρ = (ev F false e ρ).fl fun d => .nx (ρ.set i (.val d)) := by rw [ex]
theorem x_setO (i : Nat) (e : E) : ex F (.setO i e) ρ = (ev F false e ρ).fl fun d => bif isOwn d then .nx (ρ.set i (.own d)) else .bad := by
  rw [ex]
  refine congrArg _ (funext fun d => ?_)
  cases isOwn d <;> rfl
theorem x_unp (t : T) (e : E) : ex F (.unp t e) ρ = (ev F false e ρ).fl fun d => onx (bindT t d ρ) .nx := by rw [ex]; rfl
theorem x_par (i j : Nat) (a b : E) : ex F (.par i j a b) ρ = (ev F false a ρ).fl fun x => (ev F false b ρ).fl fun y => .nx ((ρ.set i (.val x)).set j (.val y)) := by rw [ex]
theorem x_par3 (i j l : Nat) (a b c : E) : ex F (.par3 i j l a b c) ρ = (ev F false a ρ).fl fun x => (ev F false b ρ).fl fun y => (ev F false c ρ).fl fun z => .nx (((ρ.set i (.val x)).set j (.val y)).set l (.val z)) := by rw [ex]
theorem x_nev : ex F .nev ρ = .bad := by rw [ex]
theorem x_iff (c : E) (a b : S) : ex F (.iff c a b) ρ = (ev F false c ρ).fl fun d => (asB d).fl fun k => bif k then ex F a ρ else ex F b ρ := by
  rw [ex]
  refine congrArg _ (funext fun d => congrArg _ (funext fun k => ?_))
  cases k <;> rfl
theorem x_ret (e : E) : ex F (.ret e) ρ = (ev F false e ρ).fl .rt := by rw [ex]
theorem x_retN : ex F .retN ρ = .rt .none := by rw [ex]
theorem x_rai (c : Nat) : ex F (.rai c) ρ = .exc c := by rw [ex]
theorem x_exp (e : E) : ex F (.exp e) ρ = (ev F false e ρ).fl fun _ => .nx ρ := by rw [ex]
theorem x_cont : ex F .cont ρ = .ct ρ := by rw [ex]
theorem x_for (t : T) (s : Src) (b : S) : ex F (.for_ t s b) ρ = (esrc F s ρ).fl (kFor F t b ρ) := by rw [ex]; rfl
theorem x_whl (c : E) (b : S) : ex F (.whl c b) ρ = whlS F c b WF ρ := by rw [ex]; rfl
end
/-! ### what simp must not look into -/
theorem then_congr {a a' : Fl} {f : Env → Fl} (h : a = a') : a.then f = a'.then f := by rw [h]
theorem bind_congr {α β : Type} {a a' : R α} {f : α → R β} (h : a = a') : a.bind f = a'.bind f := by rw [h]
theorem fl_congr {α : Type} {a a' : R α} {f : α → Fl} (h : a = a') : a.fl f = a'.fl f := by rw [h]
theorem cond_congr {α : Type} {k k' : Bool} {x y : α} (h : k = k') : cond k x y = cond k' x y := by rw [h]
theorem then_nx (ρ : Env) (f : Env → Fl) : (Fl.nx ρ).then f = f ρ := Eq.trans rfl rfl
@[simp] theorem then_rt (d : PyData) (f : Env → Fl) : (Fl.rt d).then f = .rt d := Eq.trans rfl rfl
@[simp] theorem then_exc (d : Nat) (f : Env → Fl) : (Fl.exc d).then f = .exc d := Eq.trans rfl rfl
@[simp] theorem toR_rt (d : PyData) : toR (.rt d) = .ok d := Eq.trans rfl rfl
@[simp] theorem toR_exc (d : Nat) : toR (.exc d) = .exc d := Eq.trans rfl rfl
@[simp] theorem asB_b (b : Bool) : asB (.bool b) = .ok b := Eq.trans rfl rfl
@[simp] theorem rd_val (m : Bool) (d : PyData) : rdS m (some (.val d)) = .ok d := Eq.trans rfl rfl
@[simp] theorem rd_own (d : PyData) : rdS true (some (.own d)) = .ok d := Eq.trans rfl rfl

/-! ### whole numbers from 0 on -/
theorem mulOk_l {i j : Int} (h : -(2 ^ 64) < i ∧ i < 2 ^ 64) : mulOk i j = true := decide_eq_true (.inl h)
theorem mulOk_r {i j : Int} (h : -(2 ^ 64) < j ∧ j < 2 ^ 64) : mulOk i j = true := decide_eq_true (.inr h)
section
variable (a b : Nat)
theorem n_add : pbin .add (nI a) (nI b) = .ok (nI (a + b)) := by
  show R.ok (PyData.int (_ + _)) = _
  unfold nI; rw [Int.natCast_add]
theorem n_mulL (h : a < 18446744073709551616) : pbin .mul (nI a) (nI b) = .ok (nI (a * b)) := by
  have e : mulOk (a : Int) (b : Int) = true := mulOk_l ⟨by omega, by omega⟩
  show (if mulOk (a : Int) (b : Int) = true then R.ok (PyData.int ((a : Int) * b)) else .bad) = _
  rw [if_pos e]
  unfold nI; rw [Int.natCast_mul]
theorem n_mulR (h : b < 18446744073709551616) : pbin .mul (nI a) (nI b) = .ok (nI (a * b)) := by
  have e : mulOk (a : Int) (b : Int) = true := mulOk_r ⟨by omega, by omega⟩
  show (if mulOk (a : Int) (b : Int) = true then R.ok (PyData.int ((a : Int) * b)) else .bad) = _
  rw [if_pos e]
  unfold nI; rw [Int.natCast_mul]
theorem n_sub (h : b ≤ a) : pbin .sub (nI a) (nI b) = .ok (nI (a - b)) := by
  show R.ok (PyData.int (_ - _)) = _
  unfold nI; rw [Int.natCast_sub h]
theorem n_mod (h : 0 < b) : pbin .mod (nI a) (nI b) = .ok (nI (a % b)) := by
  show (if _ then _ else _) = _
  rw [if_pos (by omega), Int.fmod_eq_emod_of_nonneg _ (Int.natCast_nonneg b)]; rfl
theorem n_div (h : 0 < b) (h' : b < 1073741824) : pbin .div (nI a) (nI b) = .ok (nI (a / b)) := by
  show (if _ then _ else _) = _
  rw [if_pos ⟨by omega, by rw [Int.natAbs_natCast]; exact h'⟩, Int.fdiv_eq_ediv_of_nonneg _ (Int.natCast_nonneg b)]; rfl
theorem n_lt : pcmp .lt (nI a) (nI b) = .ok (decide (a < b)) := congrArg R.ok (by rw [decide_eq_decide]; exact Int.ofNat_lt)
theorem n_le : pcmp .le (nI a) (nI b) = .ok (decide (a ≤ b)) := congrArg R.ok (by rw [decide_eq_decide]; exact Int.ofNat_le)
theorem n_gt : pcmp .gt (nI a) (nI b) = .ok (decide (b < a)) := congrArg R.ok (by rw [decide_eq_decide]; exact Int.ofNat_lt)
theorem n_ge : pcmp .ge (nI a) (nI b) = .ok (decide (b ≤ a)) := congrArg R.ok (by rw [decide_eq_decide]; exact Int.ofNat_le)
theorem eqv_n : PyData.eqv (nI a) (nI b) = decide (a = b) := by
  rw [Bool.eq_iff_iff]
  unfold nI
  rw [PyData.eqv, beq_iff_eq, decide_eq_true_eq]
  exact Int.ofNat_inj
theorem sh_n : SeqAt.shaped (nI a) = true := by simp [nI, SeqAt.shaped, PyData.canLay0, PyData.depth]
theorem n_eq : pcmp .eq (nI a) (nI b) = .ok (decide (a = b)) := by
  show (if (SeqAt.shaped (nI a) && SeqAt.shaped (nI b)) = true then R.ok (PyData.eqv (nI a) (nI b)) else .bad) = _
  rw [sh_n, sh_n, if_pos (by rfl), eqv_n]
theorem n_ne : pcmp .ne (nI a) (nI b) = .ok (!decide (a = b)) := by
  show (if (SeqAt.shaped (nI a) && SeqAt.shaped (nI b)) = true then R.ok (!PyData.eqv (nI a) (nI b)) else .bad) = _
  rw [sh_n, sh_n, if_pos (by rfl), eqv_n]
theorem n_neg : pneg (nI a) = .ok (nJ a) := Eq.trans rfl rfl
end
/-! ### equality of data -/
mutual
/-- no truth, no dict, texts that can be -/
def plain : PyData → Bool
  | .none => true
  | .bool _ => false
  | .int _ => true
  | .str x => PyData.strOk x
  | .list xs => plains xs
  | .tuple xs => plains xs
  | .dict _ => false
def plains : List PyData → Bool
  | [] => true
  | x :: xs => plain x && plains xs
end
mutual
theorem eqv_self : ∀ d : PyData, d.canLay0 = true → PyData.eqv d d = true
  | .none, _ => by simp [PyData.eqv]
  | .bool b, _ => by cases b <;> simp [PyData.eqv]
  | .int i, _ => by simp [PyData.eqv]
  | .str s, _ => by simp [PyData.eqv]
  | .list xs, h => by rw [PyData.eqv]; exact eqvs_self xs (by simpa [PyData.canLay0] using h)
  | .tuple xs, h => by rw [PyData.eqv]; exact eqvs_self xs (by simpa [PyData.canLay0] using h)
  | .dict _, h => by simp [PyData.canLay0] at h
theorem eqvs_self : ∀ d : List PyData, PyData.canLayAll0 d = true → PyData.eqvAll d d = true
  | [], _ => by simp [PyData.eqvAll]
  | d :: ds, h => by
    rw [PyData.canLayAll0, Bool.and_eq_true] at h
    rw [PyData.eqvAll, eqv_self d h.1, eqvs_self ds h.2]; rfl
end
theorem same_eq {d : PyData} (h : SeqAt.shaped d = true) : pcmp .eq d d = .ok true := by
  show (if (SeqAt.shaped d && SeqAt.shaped d) = true then R.ok (PyData.eqv d d) else .bad) = _
  rw [h, if_pos (by rfl), eqv_self d (SeqAt.canLay_of_shaped h)]
theorem same_ne {d : PyData} (h : SeqAt.shaped d = true) : pcmp .ne d d = .ok false := by
  show (if (SeqAt.shaped d && SeqAt.shaped d) = true then R.ok (!PyData.eqv d d) else .bad) = _
  rw [h, if_pos (by rfl), eqv_self d (SeqAt.canLay_of_shaped h)]; rfl

/-! ### lists of whole numbers, and of anything told by a map -/
section
variable {α : Type}
def compA (b : α → R (Option PyData)) : List α → R (List PyData)
  | [] => .ok []
  | a :: r => (b a).bind fun o => (compA b r).bind fun ys => .ok (ocons o ys)
/-- a comprehension over what is told by a list -/
def cmpA (b : α → R (Option PyData)) (l : List α) : R PyData := (if l.length < LIM then (compA b l).bind fun ys => .ok (.list ys) else .bad).nox
def cmpN (b : Nat → R (Option PyData)) (n : Nat) : R PyData := cmpA b (List.range n)
theorem compA_map (b : PyData → R (Option PyData)) (enc : α → PyData) : ∀ l : List α, compL b (l.map enc) = compA (fun a => b (enc a)) l
  | [] => rfl
  | a :: r => by rw [List.map_cons, compL, compA_map b enc r]; rfl
theorem compA_congr {b b' : α → R (Option PyData)} : ∀ {l : List α}, (∀ a ∈ l, b a = b' a) → compA b l = compA b' l
  | [], _ => rfl
  | a :: r, h => by rw [compA, compA, h a (.head _), compA_congr fun x hx => h x (.tail _ hx)]
theorem cmpA_congr {b b' : α → R (Option PyData)} {l : List α} (h : ∀ a, a ∈ l → b a = b' a) : cmpA b l = cmpA b' l := by
  unfold cmpA; rw [compA_congr h]
theorem compA_mapl {β : Type} (b : α → R (Option PyData)) (h : β → α) : ∀ l : List β, compA b (l.map h) = compA (fun a => b (h a)) l
  | [] => rfl
  | a :: r => by rw [List.map_cons, compA, compA, compA_mapl b h r]
theorem cmpA_mapl {β : Type} (b : α → R (Option PyData)) (h : β → α) (l : List β) : cmpA b (l.map h) = cmpA (fun a => b (h a)) l := by
  unfold cmpA
  rw [List.length_map, compA_mapl]
theorem cmpr_map0 (b : PyData → R (Option PyData)) (enc : α → PyData) (l : List α) : cmpr b (l.map enc) = cmpA (fun a => b (enc a)) l := by
  unfold cmpr cmpA
  rw [List.length_map, compA_map]
/-- the test a ∈ l hands on what is known of the items (simp's ite_congr) -/
theorem cmpr_map [BEq α] [LawfulBEq α] (b : PyData → R (Option PyData)) (enc : α → PyData) (l : List α) : cmpr b (l.map enc) = cmpA (fun a => if a ∈ l then b (enc a) else .bad) l := by
  rw [cmpr_map0]
  exact cmpA_congr fun a ha => by rw [if_pos ha]
theorem cmpA_map {β : Type} [BEq α] [LawfulBEq α] [BEq β] [LawfulBEq β] (b : α → R (Option PyData)) (h : β → α) (l : List β) : cmpA (fun a => if a ∈ l.map h then b a else .bad) (l.map h) = cmpA (fun a => if a ∈ l then b (h a) else .bad) l := by
  rw [cmpA_mapl]
  exact cmpA_congr fun a ha => by rw [if_pos ha, if_pos (List.mem_map_of_mem ha)]
theorem cmpA_range (b : Nat → R (Option PyData)) (n : Nat) : cmpA (fun a => if a ∈ List.range n then b a else .bad) (List.range n) = cmpN (fun i => if i < n then b i else .bad) n :=
  cmpA_congr fun a ha => by rw [if_pos ha, if_pos (List.mem_range.mp ha)]
theorem compA_ok (h : α → PyData) : ∀ l : List α, compA (fun a => .ok (some (h a))) l = .ok (l.map h)
  | [] => rfl
  | a :: r => by rw [compA, R.bind_ok, compA_ok h r]; rfl
theorem compA_okc (k : α → Bool) (h : α → PyData) : ∀ l : List α, compA (fun a => .ok (bif k a then some (h a) else none)) l = .ok ((l.filter k).map h)
  | [] => rfl
  | a :: r => by
    rw [compA, R.bind_ok, compA_okc k h r, List.filter_cons]
    cases k a <;> rfl
theorem cmpA_ok [BEq α] [LawfulBEq α] (h : α → PyData) {l : List α} (hl : l.length < 1000000) : cmpA (fun a => if a ∈ l then .ok (some (h a)) else .bad) l = .ok (.list (l.map h)) := by
  rw [cmpA_congr (b' := fun a => .ok (some (h a))) fun a ha => by rw [if_pos ha]]
  unfold cmpA
  rw [if_pos (by rw [LIM_eq]; exact hl), compA_ok]; rfl
theorem cmpA_okc [BEq α] [LawfulBEq α] (k : α → Bool) (h : α → PyData) {l : List α} (hl : l.length < 1000000) : cmpA (fun a => if a ∈ l then .ok (bif k a then some (h a) else none) else .bad) l = .ok (.list ((l.filter k).map h)) := by
  rw [cmpA_congr (b' := fun a => .ok (bif k a then some (h a) else none)) fun a ha => by rw [if_pos ha]]
  unfold cmpA
  rw [if_pos (by rw [LIM_eq]; exact hl), compA_okc]; rfl
theorem cmpN_ok (h : Nat → PyData) {n : Nat} (hl : n < 1000000) : cmpN (fun a => if a < n then .ok (some (h a)) else .bad) n = .ok (.list ((List.range n).map h)) := by
  unfold cmpN
  rw [cmpA_congr (b' := fun a => .ok (some (h a))) fun a ha => by rw [if_pos (List.mem_range.mp ha)]]
  unfold cmpA
  rw [if_pos (by rw [LIM_eq, List.length_range]; exact hl), compA_ok]; rfl
theorem cmpN_okc (k : Nat → Bool) (h : Nat → PyData) {n : Nat} (hl : n < 1000000) : cmpN (fun a => if a < n then .ok (bif k a then some (h a) else none) else .bad) n = .ok (.list (((List.range n).filter k).map h)) := by
  unfold cmpN
  rw [cmpA_congr (b' := fun a => .ok (bif k a then some (h a) else none)) fun a ha => by rw [if_pos (List.mem_range.mp ha)]]
  unfold cmpA
  rw [if_pos (by rw [LIM_eq, List.length_range]; exact hl), compA_okc]; rfl
theorem compA_none : ∀ l : List α, compA (fun _ => .ok none) l = .ok []
  | [] => rfl
  | a :: r => by rw [compA, R.bind_ok, compA_none r]; rfl
theorem cmpA_none [BEq α] [LawfulBEq α] {l : List α} (hl : l.length < 1000000) : cmpA (fun a => if a ∈ l then .ok none else .bad) l = .ok (.list []) := by
  rw [cmpA_congr (b' := fun _ => .ok none) fun a ha => by rw [if_pos ha]]
  unfold cmpA
  rw [if_pos (by rw [LIM_eq]; exact hl), compA_none]; rfl
theorem cmpN_none {n : Nat} (hl : n < 1000000) : cmpN (fun a => if a < n then .ok none else .bad) n = .ok (.list []) := by
  unfold cmpN
  rw [cmpA_congr (b' := fun _ => .ok none) fun a ha => by rw [if_pos (List.mem_range.mp ha)]]
  unfold cmpA
  rw [if_pos (by rw [LIM_eq, List.length_range]; exact hl), compA_none]; rfl
theorem gd_t (y : PyData) : gd true (.ok y) = .ok (some y) := Eq.trans rfl rfl
theorem gd_k (k : Bool) (y : PyData) : gd k (.ok y) = .ok (bif k then some y else none) := by cases k <;> rfl
end
theorem rangeL_nI (n : Nat) : rangeL 0 n = (List.range n).map nI := by
  unfold rangeL nI
  exact List.map_congr_left fun i _ => by rw [Int.zero_add]
theorem r1_n {n : Nat} (h : n < 1000000) : psrc1 (nI n) = .ok ((List.range n).map nI) := by
  show (if (n : Int) < (LIM : Nat) ∧ -(LIM : Int) < (n : Int) then R.ok (rangeL 0 (n : Int).toNat) else .bad) = _
  rw [if_pos (by rw [LIM_eq]; omega), Int.toNat_natCast, rangeL_nI]
theorem rng_t {n : Nat} (h : n < 1000000) : prng true (nI n) = .ok (dI (List.range n)) := by
  show (if (n : Int) < (LIM : Nat) ∧ -(LIM : Int) < (n : Int) then R.ok (PyData.tuple (rangeL 0 (n : Int).toNat)) else .bad) = _
  rw [if_pos (by rw [LIM_eq]; omega), Int.toNat_natCast, rangeL_nI]; rfl
theorem rng_l {n : Nat} (h : n < 1000000) : prng false (nI n) = .ok (lI (List.range n)) := by
  show (if (n : Int) < (LIM : Nat) ∧ -(LIM : Int) < (n : Int) then R.ok (PyData.list (rangeL 0 (n : Int).toNat)) else .bad) = _
  rw [if_pos (by rw [LIM_eq]; omega), Int.toNat_natCast, rangeL_nI]; rfl
theorem atI_nat {α : Type} (l : List α) (k : Nat) : L2.atI l (k : Int) = l[k]? := by
  unfold L2.atI L2.ixN
  by_cases h : k < l.length
  · simp [h]
  · simp [h]
theorem ix_t {l : List PyData} {k : Nat} {v : PyData} (h : l[k]? = some v) : pix (.tuple l) (nI k) = .ok v := by
  show (match L2.atI l (k : Int) with | some v => R.ok v | none => .bad) = _
  rw [atI_nat, h]
theorem ix_l {l : List PyData} {k : Nat} {v : PyData} (h : l[k]? = some v) : pix (.list l) (nI k) = .ok v := by
  show (match L2.atI l (k : Int) with | some v => R.ok v | none => .bad) = _
  rw [atI_nat, h]
theorem ix_t0 (a : PyData) (l : List PyData) : pix (.tuple (a :: l)) (nI 0) = .ok a := ix_t rfl
theorem ix_t1 (a b : PyData) (l : List PyData) : pix (.tuple (a :: b :: l)) (nI 1) = .ok b := ix_t rfl
theorem ix_t2 (a b c : PyData) (l : List PyData) : pix (.tuple (a :: b :: c :: l)) (nI 2) = .ok c := ix_t rfl
theorem ix_t3 (a b c d : PyData) (l : List PyData) : pix (.tuple (a :: b :: c :: d :: l)) (nI 3) = .ok d := ix_t rfl
theorem ix_t4 (a b c d e : PyData) (l : List PyData) : pix (.tuple (a :: b :: c :: d :: e :: l)) (nI 4) = .ok e := ix_t rfl
theorem ix_dI {l : List Nat} {k : Nat} (h : k < l.length) : pix (dI l) (nI k) = .ok (nI (l[k]?.getD 0)) := ix_t (by rw [List.getElem?_map, List.getElem?_eq_getElem h]; rfl)
theorem ix_lI {l : List Nat} {k : Nat} (h : k < l.length) : pix (lI l) (nI k) = .ok (nI (l[k]?.getD 0)) := ix_l (by rw [List.getElem?_map, List.getElem?_eq_getElem h]; rfl)
theorem ix_last (l : List PyData) (v : PyData) : pix (.tuple (l ++ [v])) (nJ 1) = .ok v := by
  show (match L2.atI (l ++ [v]) (-1) with | some v => R.ok v | none => .bad) = _
  have : L2.atI (l ++ [v]) (-1) = some v := by
    unfold L2.atI L2.ixN
    rw [if_neg (by decide), List.length_append, if_pos (by simp; omega)]
    have e : ((-1 : Int) + ((l.length + [v].length : Nat) : Int)).toNat = l.length := by simp; omega
    rw [e]
    simp
  rw [this]
theorem ix_m4 (a b c d : PyData) : pix (.tuple [a, b, c, d]) (nJ 1) = .ok d := ix_last [a, b, c] d
theorem ix_m5 (a b c d e : PyData) : pix (.tuple [a, b, c, d, e]) (nJ 1) = .ok e := ix_last [a, b, c, d] e
theorem len_t (xs : List PyData) : pbi .len [.tuple xs] = .ok (nI xs.length) := Eq.trans rfl rfl
theorem len_l (xs : List PyData) : pbi .len [.list xs] = .ok (nI xs.length) := Eq.trans rfl rfl
theorem len_dI (xs : List Nat) : pbi .len [dI xs] = .ok (nI xs.length) := by
  show R.ok (PyData.int ((xs.map nI).length : Nat)) = _
  rw [List.length_map]; rfl
theorem len_lI (xs : List Nat) : pbi .len [lI xs] = .ok (nI xs.length) := by
  show R.ok (PyData.int ((xs.map nI).length : Nat)) = _
  rw [List.length_map]; rfl
theorem src_d (l : List Nat) : psrc (dI l) = .ok (l.map nI) := Eq.trans rfl rfl
theorem src_l (l : List Nat) : psrc (lI l) = .ok (l.map nI) := Eq.trans rfl rfl
theorem srcO_L (l : List PyData) : psrcO (.list l) = .ok l := Eq.trans rfl rfl
theorem srcO_I (l : List Nat) : psrcO (lI l) = .ok (l.map nI) := Eq.trans rfl rfl
theorem src_L (l : List PyData) : psrc (.list l) = .ok l := Eq.trans rfl rfl
theorem src_T (l : List PyData) : psrc (.tuple l) = .ok l := Eq.trans rfl rfl
theorem tup_l (l : List PyData) : pbi .tuple [.list l] = .ok (.tuple l) := Eq.trans rfl rfl
theorem tup_lI (l : List Nat) : pbi .tuple [lI l] = .ok (dI l) := Eq.trans rfl rfl
theorem tup_t (l : List PyData) : pbi .tuple [.tuple l] = .ok (.tuple l) := Eq.trans rfl rfl
theorem tup_dI (l : List Nat) : pbi .tuple [dI l] = .ok (dI l) := Eq.trans rfl rfl
theorem lst_dI (l : List Nat) : pbi .list [dI l] = .ok (lI l) := Eq.trans rfl rfl
theorem lst_lI (l : List Nat) : pbi .list [lI l] = .ok (lI l) := Eq.trans rfl rfl
theorem lst_t (l : List PyData) : pbi .list [.tuple l] = .ok (.list l) := Eq.trans rfl rfl
theorem fold_lI {α : Type} (l : List α) (g : α → Nat) : PyData.list (l.map fun a => nI (g a)) = lI (l.map g) := by
  unfold lI; rw [List.map_map]; rfl
theorem fold_dI {α : Type} (l : List α) (g : α → Nat) : PyData.tuple (l.map fun a => nI (g a)) = dI (l.map g) := by
  unfold dI; rw [List.map_map]; rfl
theorem intsOf_nI : ∀ l : List Nat, intsOf (l.map nI) = some (l.map fun (i : Nat) => (i : Int))
  | [] => rfl
  | a :: r => by
    rw [List.map_cons]
    show (intsOf (r.map nI)).map _ = _
    rw [intsOf_nI r]; rfl
theorem sum_nat : ∀ l : List Nat, (l.map fun i => ((i : Nat) : Int)).sum = ((l.sum : Nat) : Int)
  | [] => rfl
  | a :: r => by rw [List.map_cons, List.sum_cons, List.sum_cons, sum_nat r, Int.natCast_add]
theorem sum_lI (l : List Nat) : pbi .sum [lI l] = .ok (nI l.sum) := by
  show (match intsOf (l.map nI) with | some ns => R.ok (PyData.int ns.sum) | _ => .bad) = _
  rw [intsOf_nI]
  show R.ok (PyData.int (l.map fun (i : Nat) => (i : Int)).sum) = _
  rw [sum_nat]; rfl
theorem cat_dI {l l' : List Nat} (h : l.length + l'.length ≤ 1000000) : pbin .add (dI l) (dI l') = .ok (dI (l ++ l')) := by
  show (if (l.map nI).length + (l'.map nI).length ≤ LIM then R.ok (PyData.tuple (l.map nI ++ l'.map nI)) else .bad) = _
  rw [List.length_map, List.length_map, if_pos (by rw [LIM_eq]; exact h)]
  unfold dI; rw [List.map_append]
theorem tup1_n (a : Nat) : PyData.tuple [nI a] = dI [a] := Eq.trans rfl rfl
theorem tup0_n : PyData.tuple [] = dI [] := Eq.trans rfl rfl
theorem lst0_n : PyData.list [] = lI [] := Eq.trans rfl rfl
/-- range(n) sorted by a key -/
def srtN (n : Nat) (z : Nat → Nat) : List Nat := (List.range n).mergeSort (W.dataLe false fun j => nI (z j))
theorem srtN_perm (n : Nat) (z : Nat → Nat) : (srtN n z).Perm (List.range n) := List.mergeSort_perm _ _
theorem psk_ok (z : Nat → Nat) {n : Nat} (hn : n < 1000000) : psk (fun j => .ok (nI (z j))) (nI n) = .ok (lI (srtN n z)) := by
  show (if 0 ≤ (n : Int) ∧ (n : Int) < (LIM : Nat) ∧ (List.range (n : Int).toNat).all (fun j => (keyN (.ok (nI (z j)))).isSome) = true then R.ok (PyData.list (srtBy (n : Int).toNat fun j => (keyN (.ok (nI (z j)))).getD 0)) else .bad) = _
  rw [if_pos]
  · rw [Int.toNat_natCast]; rfl
  · exact ⟨by omega, by rw [LIM_eq]; omega, List.all_eq_true.mpr fun j hj => rfl⟩
theorem b_nm (i : Nat) (d : PyData) (ρ : Env) : bindT (.nm i) d ρ = some (ρ.set i (.val d)) := by rw [bindT]
theorem b_tup (ts : Ts) (ds : List PyData) (ρ : Env) : bindT (.tup ts) (.tuple ds) ρ = bindTs ts ds ρ := by rw [bindT]
theorem bs_nil (ρ : Env) : bindTs .nil [] ρ = some ρ := by rw [bindTs]
theorem bs_cons (t : T) (ts : Ts) (d : PyData) (ds : List PyData) (ρ : Env) : bindTs (.cons t ts) (d :: ds) ρ = (bindT t d ρ).bind fun ρ1 => bindTs ts ds ρ1 := by rw [bindTs]
theorem b_some (ρ : Env) (f : Env → Option Env) : (some ρ).bind f = f ρ := Eq.trans rfl rfl
/-! ### own lists -/
def ownS : Option Slot → R PyData
  | some (.own d) => .ok d
  | _ => .bad
theorem own_s (d : PyData) : ownS (some (.own d)) = .ok d := Eq.trans rfl rfl
def papp (xs : List PyData) (d : PyData) : R PyData := if xs.length < LIM then .ok (.list (xs ++ [d])) else .bad
def pext (xs : List PyData) : PyData → R PyData
  | .list ys => if xs.length + ys.length < LIM then .ok (.list (xs ++ ys)) else .bad
  | _ => .bad
def psetL (xs : List PyData) (d : PyData) : PyData → R PyData
  | .int z => (match L2.ixN xs.length z with | some j => .ok (.list (xs.set j d)) | none => .bad)
  | _ => .bad
def psetT (kvs : List (PyData × PyData)) (kd d : PyData) : R PyData := if keyOk true kd && decide (kvs.length < DLIM) then .ok (dictT (dput kd d kvs)) else .bad
def psetK (kvs : List (PyData × PyData)) (kd d : PyData) : R PyData := if keyOk false kd && decide (kvs.length < DLIM) then .ok (dictK (dput kd d kvs)) else .bad
section
variable {F : Str → List PyData → R PyData} {ρ : Env}
def kApp (F : Str → List PyData → R PyData) (i : Nat) (e : E) (ρ : Env) : PyData → Fl
  | .list xs => (ev F false e ρ).fl fun d => (papp xs d).fl fun y => .nx (ρ.set i (.own y))
  | _ => .bad
def kExt (F : Str → List PyData → R PyData) (i : Nat) (e : E) (ρ : Env) : PyData → Fl
  | .list xs => (ev F false e ρ).fl fun d => (pext xs d).fl fun y => .nx (ρ.set i (.own y))
  | _ => .bad
def kSet (F : Str → List PyData → R PyData) (i : Nat) (k : E) (ρ : Env) (d : PyData) : PyData → Fl
  | .list xs => (ev F true k ρ).fl fun kd => (psetL xs d kd).fl fun y => .nx (ρ.set i (.own y))
  | .dict ((.none, .none) :: kvs) => (ev F false k ρ).fl fun kd => (psetT kvs kd d).fl fun y => .nx (ρ.set i (.own y))
  | .dict ((.none, .bool true) :: kvs) => (ev F false k ρ).fl fun kd => (psetK kvs kd d).fl fun y => .nx (ρ.set i (.own y))
  | _ => .bad
def kPop (t : T) (i : Nat) (ρ : Env) : PyData → Fl
  | .list (x :: xs) => onx (bindT t x (ρ.set i (.own (.list xs)))) .nx
  | _ => .bad
theorem fl_if {p : Prop} [Decidable p] {d : PyData} {f : PyData → Fl} : (if p then f d else .bad) = (if p then R.ok d else .bad : R PyData).fl f := by
  split <;> rfl
theorem x_app (i : Nat) (e : E) : ex F (.app i e) ρ = (ownS ρ[i]?).fl (kApp F i e ρ) := by
  rw [ex]
  split
  · rename_i xs h
    rw [h]
    show _ = (ev F false e ρ).fl _
    refine congrArg _ (funext fun d => ?_)
    exact fl_if (f := fun y => Fl.nx (ρ.set i (.own y)))
  · rename_i h
    cases q : ρ[i]? with
    | none => rfl
    | some s =>
      cases s with
      | own d =>
        cases d with
        | list xs => exact (h xs q).elim
        | _ => rfl
      | _ => rfl
theorem x_ext (i : Nat) (e : E) : ex F (.ext i e) ρ = (ownS ρ[i]?).fl (kExt F i e ρ) := by
  rw [ex]
  split
  · rename_i xs h
    rw [h]
    show _ = (ev F false e ρ).fl _
    refine congrArg _ (funext fun d => ?_)
    cases d with
    | list ys => exact fl_if (f := fun y => Fl.nx (ρ.set i (.own y)))
    | _ => rfl
  · rename_i h
    cases q : ρ[i]? with
    | none => rfl
    | some s =>
      cases s with
      | own d =>
        cases d with
        | list xs => exact (h xs q).elim
        | _ => rfl
      | _ => rfl
theorem x_pop0 (t : T) (i : Nat) : ex F (.pop0 t i) ρ = (ownS ρ[i]?).fl (kPop t i ρ) := by
  rw [ex]
  split
  · rename_i x xs h
    rw [h]; rfl
  · rename_i h
    cases q : ρ[i]? with
    | none => rfl
    | some s =>
      cases s with
      | own d =>
        cases d with
        | list xs =>
          cases xs with
          | nil => rfl
          | cons x xs => exact (h x xs q).elim
        | _ => rfl
      | _ => rfl
theorem x_setIx (i : Nat) (k e : E) : ex F (.setIx i k e) ρ = (ev F false e ρ).fl fun d => (ownS ρ[i]?).fl (kSet F i k ρ d) := by
  rw [ex]
  refine congrArg _ (funext fun d => ?_)
  split
  · rename_i xs h
    rw [h]
    show _ = (ev F true k ρ).fl _
    refine congrArg _ (funext fun kd => ?_)
    cases kd with
    | int z =>
      show (match L2.ixN xs.length z with | some j => Fl.nx (ρ.set i (.own (.list (xs.set j d)))) | none => .bad) = (match L2.ixN xs.length z with | some j => R.ok (PyData.list (xs.set j d)) | none => .bad : R PyData).fl _
      cases L2.ixN xs.length z <;> rfl
    | _ => rfl
  · rename_i kvs h
    rw [h]
    show _ = (ev F false k ρ).fl _
    refine congrArg _ (funext fun kd => ?_)
    exact fl_if (f := fun y => Fl.nx (ρ.set i (.own y)))
  · rename_i kvs h
    rw [h]
    show _ = (ev F false k ρ).fl _
    refine congrArg _ (funext fun kd => ?_)
    exact fl_if (f := fun y => Fl.nx (ρ.set i (.own y)))
  · rename_i h1 h2 h3
    cases q : ρ[i]? with
    | none => rfl
    | some s =>
      cases s with
      | own x =>
        show _ = kSet F i k ρ d x
        unfold kSet
        split
        · exact (h1 _ q).elim
        · exact (h2 _ q).elim
        · exact (h3 _ q).elim
        · rfl
      | _ => rfl
theorem kApp_L (i : Nat) (e : E) (xs : List PyData) : kApp F i e ρ (.list xs) = (ev F false e ρ).fl fun d => (papp xs d).fl fun y => .nx (ρ.set i (.own y)) := Eq.trans rfl rfl
theorem kApp_I (i : Nat) (e : E) (l : List Nat) : kApp F i e ρ (lI l) = (ev F false e ρ).fl fun d => (papp (l.map nI) d).fl fun y => .nx (ρ.set i (.own y)) := Eq.trans rfl rfl
theorem kExt_L (i : Nat) (e : E) (xs : List PyData) : kExt F i e ρ (.list xs) = (ev F false e ρ).fl fun d => (pext xs d).fl fun y => .nx (ρ.set i (.own y)) := Eq.trans rfl rfl
theorem kExt_I (i : Nat) (e : E) (l : List Nat) : kExt F i e ρ (lI l) = (ev F false e ρ).fl fun d => (pext (l.map nI) d).fl fun y => .nx (ρ.set i (.own y)) := Eq.trans rfl rfl
theorem kSet_L (i : Nat) (k : E) (d : PyData) (xs : List PyData) : kSet F i k ρ d (.list xs) = (ev F true k ρ).fl fun kd => (psetL xs d kd).fl fun y => .nx (ρ.set i (.own y)) := Eq.trans rfl rfl
theorem kSet_I (i : Nat) (k : E) (d : PyData) (l : List Nat) : kSet F i k ρ d (lI l) = (ev F true k ρ).fl fun kd => (psetL (l.map nI) d kd).fl fun y => .nx (ρ.set i (.own y)) := Eq.trans rfl rfl
theorem kSet_T (i : Nat) (k : E) (d : PyData) (kvs : List (PyData × PyData)) : kSet F i k ρ d (dictT kvs) = (ev F false k ρ).fl fun kd => (psetT kvs kd d).fl fun y => .nx (ρ.set i (.own y)) := Eq.trans rfl rfl
theorem kSet_K (i : Nat) (k : E) (d : PyData) (kvs : List (PyData × PyData)) : kSet F i k ρ d (dictK kvs) = (ev F false k ρ).fl fun kd => (psetK kvs kd d).fl fun y => .nx (ρ.set i (.own y)) := Eq.trans rfl rfl
end
theorem own_I (l : List Nat) : isOwn (lI l) = true := Eq.trans rfl rfl
theorem own_L (l : List PyData) : isOwn (.list l) = true := Eq.trans rfl rfl
theorem own_T (l : List (PyData × PyData)) : isOwn (dictT l) = true := Eq.trans rfl rfl
theorem own_K (l : List (PyData × PyData)) : isOwn (dictK l) = true := Eq.trans rfl rfl
theorem papp_I {l : List Nat} {a : Nat} (h : l.length < 1000000) : papp (l.map nI) (nI a) = .ok (lI (l ++ [a])) := by
  unfold papp
  rw [List.length_map, if_pos (by rw [LIM_eq]; exact h)]
  unfold lI; rw [List.map_append]; rfl
theorem fold_snoc (l : List Nat) (a : Nat) : PyData.list (l.map nI ++ [nI a]) = lI (l ++ [a]) := by
  unfold lI; rw [List.map_append]; rfl
theorem fold_set (l : List Nat) (k a : Nat) : PyData.list ((l.map nI).set k (nI a)) = lI (l.set k a) := by
  unfold lI; rw [List.map_set]
theorem papp_L {xs : List PyData} {d : PyData} (h : xs.length < 1000000) : papp xs d = .ok (.list (xs ++ [d])) := by
  unfold papp
  rw [if_pos (by rw [LIM_eq]; exact h)]
theorem pext_L {xs ys : List PyData} (h : xs.length + ys.length < 1000000) : pext xs (.list ys) = .ok (.list (xs ++ ys)) := by
  show (if _ then _ else _) = _
  rw [if_pos (by rw [LIM_eq]; exact h)]
theorem psetL_I {xs : List PyData} {d : PyData} {k : Nat} (h : k < xs.length) : psetL xs d (nI k) = .ok (.list (xs.set k d)) := by
  show (match L2.ixN xs.length (k : Int) with | some j => R.ok (PyData.list (xs.set j d)) | none => .bad) = _
  have : L2.ixN xs.length (k : Int) = some k := by unfold L2.ixN; simp [h]
  rw [this]
theorem psetI_I {l : List Nat} {a k : Nat} (h : k < l.length) : psetL (l.map nI) (nI a) (nI k) = .ok (lI (l.set k a)) := by
  rw [psetL_I (by rw [List.length_map]; exact h)]
  unfold lI; rw [List.map_set]
/-! ### defs -/
class Has (DS : List Def) (x : Str) (nps len : outParam Nat) (b : outParam S) : Prop where
  ex : ∃ d, findD x DS = some d ∧ d.nps = nps ∧ d.N.length = len ∧ d.body = b
theorem run_has {DS : List Def} {x : Str} {nps len : Nat} {b : S} [H : Has DS x nps len b] (n : Nat) (ds : List PyData) (h : ds.length = nps) :
    runF DS (n + 1) x ds = toR (ex (runF DS n) b (ds.map .val ++ List.replicate (len - nps) .nul)) := by
  obtain ⟨d, h1, h2, h3, h4⟩ := H.ex
  rw [runF, h1]
  show (if ds.length = d.nps then _ else _) = _
  rw [h2, h3, h4, if_pos h]
end Iv
end

section
/-! An: lists of whole numbers. -/
namespace Iv
theorem snoc_ind {α : Type} {P : List α → Prop} (h0 : P []) (hs : ∀ l a, P l → P (l ++ [a])) : ∀ l, P l := fun l => by
  have : ∀ r : List α, P r.reverse := fun r => by
    induction r with
    | nil => exact h0
    | cons a r ih => rw [List.reverse_cons]; exact hs _ _ ih
  have h := this l.reverse
  rwa [List.reverse_reverse] at h
/-- the same (by an instance of its own) -/
def leq (a b : List Nat) : Bool := decide (a = b)
theorem leq_iff {a b : List Nat} : leq a b = true ↔ a = b := decide_eq_true_iff
theorem leq_self (a : List Nat) : leq a a = true := leq_iff.mpr rfl
theorem leq_t {a b : List Nat} (h : a = b) : leq a b = true := leq_iff.mpr h
theorem leq_f {a b : List Nat} (h : a ≠ b) : leq a b = false := decide_eq_false h
/-- put in, each once, rising -/
def insN (x : Nat) : List Nat → List Nat
  | [] => [x]
  | y :: r => if x < y then x :: y :: r else if x = y then y :: r else y :: insN x r
def sset (l : List Nat) : List Nat := l.foldr insN []
theorem mem_insN {x k : Nat} : ∀ {l : List Nat}, k ∈ insN x l ↔ k = x ∨ k ∈ l
  | [] => by simp [insN]
  | y :: r => by
    unfold insN
    split
    · simp
    · split
      · rename_i e; subst e; simp
      · rw [List.mem_cons, mem_insN (l := r), List.mem_cons]
        constructor
        · rintro (h | h | h)
          · exact .inr (.inl h)
          · exact .inl h
          · exact .inr (.inr h)
        · rintro (h | h | h)
          · exact .inr (.inl h)
          · exact .inl h
          · exact .inr (.inr h)
theorem insN_inc {x : Nat} : ∀ {l : List Nat}, l.Pairwise (· < ·) → (insN x l).Pairwise (· < ·)
  | [], _ => List.pairwise_singleton _ _
  | y :: r, h => by
    rw [List.pairwise_cons] at h
    unfold insN
    split
    · rename_i hx
      rw [List.pairwise_cons, List.pairwise_cons]
      refine ⟨fun z hz => ?_, h⟩
      rcases List.mem_cons.mp hz with rfl | hz
      · exact hx
      · have := h.1 z hz; omega
    · split
      · rw [List.pairwise_cons]; exact h
      · rename_i h1 h2
        rw [List.pairwise_cons]
        refine ⟨fun z hz => ?_, insN_inc h.2⟩
        rcases mem_insN.mp hz with rfl | hz
        · omega
        · exact h.1 z hz
theorem mem_sset {k : Nat} : ∀ {l : List Nat}, k ∈ sset l ↔ k ∈ l
  | [] => Iff.rfl
  | y :: r => by
    show k ∈ insN y (sset r) ↔ _
    rw [mem_insN, mem_sset (l := r), List.mem_cons]
theorem sset_inc : ∀ l : List Nat, (sset l).Pairwise (· < ·)
  | [] => List.Pairwise.nil
  | y :: r => insN_inc (sset_inc r)
theorem incN_unique : ∀ {l l' : List Nat}, l.Pairwise (· < ·) → l'.Pairwise (· < ·) → (∀ k, k ∈ l ↔ k ∈ l') → l = l'
  | [], [], _, _, _ => rfl
  | [], b :: _, _, _, h => by have := (h b).mpr (.head _); cases this
  | a :: _, [], _, _, h => by have := (h a).mp (.head _); cases this
  | a :: l, b :: l', h1, h2, h => by
    rw [List.pairwise_cons] at h1 h2
    have e : a = b := by
      rcases List.mem_cons.mp ((h a).mp (.head _)) with e | e
      · exact e
      · rcases List.mem_cons.mp ((h b).mpr (.head _)) with e' | e'
        · exact e'.symm
        · have x := h2.1 a e
          have y := h1.1 b e'
          omega
    subst e
    congr 1
    refine incN_unique h1.2 h2.2 fun k => ⟨fun hk => ?_, fun hk => ?_⟩
    · rcases List.mem_cons.mp ((h k).mp (.tail _ hk)) with e | e
      · have := h1.1 k hk; omega
      · exact e
    · rcases List.mem_cons.mp ((h k).mpr (.tail _ hk)) with e | e
      · have := h2.1 k hk; omega
      · exact e
theorem inc_len {k : Nat} : ∀ (l : List Nat) (lo : Nat), l.Pairwise (· < ·) → (∀ t ∈ l, lo ≤ t ∧ t < k) → l.length ≤ k - lo
  | [], _, _, _ => Nat.zero_le _
  | a :: r, lo, h, b => by
    rw [List.pairwise_cons] at h
    have h1 := b a (.head _)
    have := inc_len r (a + 1) h.2 fun t ht => ⟨h.1 t ht, (b t (.tail _ ht)).2⟩
    rw [List.length_cons]
    omega
theorem range_inc (n : Nat) : (List.range n).Pairwise (· < ·) := List.pairwise_lt_range
theorem filter_inc {l : List Nat} (h : l.Pairwise (· < ·)) (p : Nat → Bool) : (l.filter p).Pairwise (· < ·) := h.filter p
/-- a rising list is what a range's numbers in it are -/
theorem inc_filter {l : List Nat} {n : Nat} (h : l.Pairwise (· < ·)) (hl : ∀ x ∈ l, x < n) : l = (List.range n).filter fun x => decide (x ∈ l) :=
  incN_unique h (filter_inc (range_inc n) _) fun k => by
    rw [List.mem_filter, List.mem_range, decide_eq_true_eq]
    exact ⟨fun z => ⟨hl k z, z⟩, fun z => z.2⟩
end Iv
end

section
/-! Pv2: shapes, equality of data. -/
namespace Iv
open PySem
def lay (k : Nat) (d : PyData) : Bool := d.canLay0 && decide (d.depth ≤ k)
theorem shaped_lay (d : PyData) : SeqAt.shaped d = lay 64 d := Eq.trans rfl rfl
theorem lays (k : Nat) : ∀ xs : List PyData, (PyData.canLayAll0 xs && decide (PyData.depthAll xs + 1 ≤ k + 1)) = xs.all (lay k)
  | [] => by simp [PyData.canLayAll0, PyData.depthAll]
  | x :: xs => by
    rw [PyData.canLayAll0, PyData.depthAll, List.all_cons, ← lays k xs]
    unfold lay
    rw [Bool.eq_iff_iff]
    simp only [Bool.and_eq_true, decide_eq_true_eq]
    have : max x.depth (PyData.depthAll xs) + 1 ≤ k + 1 ↔ x.depth ≤ k ∧ PyData.depthAll xs + 1 ≤ k + 1 := by omega
    rw [this]
    constructor
    · rintro ⟨⟨a, b⟩, c, d⟩; exact ⟨⟨a, c⟩, b, d⟩
    · rintro ⟨⟨a, c⟩, b, d⟩; exact ⟨⟨a, b⟩, c, d⟩
theorem lay_list (k : Nat) (xs : List PyData) : lay (k + 1) (.list xs) = xs.all (lay k) := by
  rw [← lays]
  show (PyData.canLay0 (.list xs) && decide (PyData.depth (.list xs) ≤ k + 1)) = _
  rw [PyData.canLay0, PyData.depth]
theorem lay_tuple (k : Nat) (xs : List PyData) : lay (k + 1) (.tuple xs) = xs.all (lay k) := by
  rw [← lays]
  show (PyData.canLay0 (.tuple xs) && decide (PyData.depth (.tuple xs) ≤ k + 1)) = _
  rw [PyData.canLay0, PyData.depth]
theorem lay_n (k a : Nat) : lay k (nI a) = true := by simp [lay, nI, PyData.canLay0, PyData.depth]
theorem lay_int (k : Nat) (a : Int) : lay k (.int a) = true := by simp [lay, PyData.canLay0, PyData.depth]
theorem lay_bool (k : Nat) (a : Bool) : lay k (.bool a) = true := by simp [lay, PyData.canLay0, PyData.depth]
theorem lay_none (k : Nat) : lay k .none = true := by simp [lay, PyData.canLay0, PyData.depth]
theorem lay_str (k : Nat) (x : Str) : lay k (.str x) = PyData.strOk x := by simp [lay, PyData.canLay0, PyData.depth]
theorem lay_lI (k : Nat) (l : List Nat) : lay (k + 1) (lI l) = true := by
  unfold lI; rw [lay_list, List.all_map, List.all_eq_true]; exact fun x _ => lay_n k x
theorem lay_dI (k : Nat) (l : List Nat) : lay (k + 1) (dI l) = true := by
  unfold dI; rw [lay_tuple, List.all_map, List.all_eq_true]; exact fun x _ => lay_n k x
theorem lay_map {α : Type} (k : Nat) (l : List α) (e : α → PyData) (h : ∀ a, lay k (e a) = true) : (l.map e).all (lay k) = true := by
  rw [List.all_map, List.all_eq_true]; exact fun x _ => h x
theorem so_sums : PyData.strOk ("sums" : Str) = true := by decide +kernel
theorem so_bits : PyData.strOk ("bits" : Str) = true := by decide +kernel
theorem so_table : PyData.strOk ("table" : Str) = true := by decide +kernel
mutual
/-- no truths, no dicts -/
def nob : PyData → Bool
  | .bool _ => false
  | .dict _ => false
  | .list xs => nobs xs
  | .tuple xs => nobs xs
  | _ => true
def nobs : List PyData → Bool
  | [] => true
  | x :: xs => nob x && nobs xs
end
theorem nobs_all : ∀ xs : List PyData, nobs xs = xs.all nob
  | [] => rfl
  | x :: xs => by rw [nobs, nobs_all xs, List.all_cons]
mutual
theorem eqv_nob : ∀ x y : PyData, nob x = true → nob y = true → (PyData.eqv x y = true ↔ x = y)
  | .none, y, _, hy => by cases y <;> simp [PyData.eqv]
  | .int i, y, _, hy => by
    cases y with
    | bool b => rw [nob] at hy; cases hy
    | _ => simp [PyData.eqv]
  | .str i, y, _, hy => by cases y <;> simp [PyData.eqv]
  | .list xs, y, hx, hy => by
    cases y with
    | list ys =>
      rw [nob] at hx hy
      rw [PyData.eqv, eqvs_nob xs ys hx hy, PyData.list.injEq]
    | _ => simp [PyData.eqv]
  | .tuple xs, y, hx, hy => by
    cases y with
    | tuple ys =>
      rw [nob] at hx hy
      rw [PyData.eqv, eqvs_nob xs ys hx hy, PyData.tuple.injEq]
    | _ => simp [PyData.eqv]
  | .bool _, _, hx, _ => by rw [nob] at hx; cases hx
  | .dict _, _, hx, _ => by rw [nob] at hx; cases hx
theorem eqvs_nob : ∀ xs ys : List PyData, nobs xs = true → nobs ys = true → (PyData.eqvAll xs ys = true ↔ xs = ys)
  | [], [], _, _ => by simp [PyData.eqvAll]
  | [], y :: ys, _, _ => by simp [PyData.eqvAll]
  | x :: xs, [], _, _ => by simp [PyData.eqvAll]
  | x :: xs, y :: ys, hx, hy => by
    rw [nobs, Bool.and_eq_true] at hx hy
    rw [PyData.eqvAll, Bool.and_eq_true, eqv_nob x y hx.1 hy.1, eqvs_nob xs ys hx.2 hy.2, List.cons.injEq]
end
theorem nob_n (a : Nat) : nob (nI a) = true := by unfold nI; rw [nob] <;> simp
theorem nob_list (xs : List PyData) : nob (.list xs) = xs.all nob := by rw [nob, nobs_all]
theorem nob_tuple (xs : List PyData) : nob (.tuple xs) = xs.all nob := by rw [nob, nobs_all]
theorem nob_str (x : Str) : nob (.str x) = true := by rw [nob] <;> simp
theorem nob_none : nob .none = true := by rw [nob] <;> simp
theorem nob_map {α : Type} (l : List α) (e : α → PyData) (h : ∀ a, nob (e a) = true) : (l.map e).all nob = true := by
  rw [List.all_map, List.all_eq_true]; exact fun x _ => h x
theorem nob_lI (l : List Nat) : nob (lI l) = true := by unfold lI; rw [nob_list]; exact nob_map l nI nob_n
theorem nob_dI (l : List Nat) : nob (dI l) = true := by unfold dI; rw [nob_tuple]; exact nob_map l nI nob_n
/-- == of data told by an injective map -/
theorem eq_enc {α : Type} [DecidableEq α] {e : α → PyData} (hs : ∀ a, lay 64 (e a) = true) (hn : ∀ a, nob (e a) = true) (hi : ∀ a b, e a = e b → a = b) (a b : α) : pcmp .eq (e a) (e b) = .ok (decide (a = b)) := by
  show (if (lay 64 (e a) && lay 64 (e b)) = true then R.ok (PyData.eqv (e a) (e b)) else .bad) = _
  rw [hs, hs, if_pos (by rfl)]
  congr 1
  rw [Bool.eq_iff_iff, eqv_nob _ _ (hn a) (hn b), decide_eq_true_eq]
  exact ⟨hi a b, congrArg e⟩
theorem ne_enc {α : Type} [DecidableEq α] {e : α → PyData} (hs : ∀ a, lay 64 (e a) = true) (hn : ∀ a, nob (e a) = true) (hi : ∀ a b, e a = e b → a = b) (a b : α) : pcmp .ne (e a) (e b) = .ok (!decide (a = b)) := by
  show (if (lay 64 (e a) && lay 64 (e b)) = true then R.ok (!PyData.eqv (e a) (e b)) else .bad) = _
  rw [hs, hs, if_pos (by rfl)]
  congr 2
  rw [Bool.eq_iff_iff, eqv_nob _ _ (hn a) (hn b), decide_eq_true_eq]
  exact ⟨hi a b, congrArg e⟩
theorem nI_inj {a b : Nat} (h : nI a = nI b) : a = b := by unfold nI at h; injection h with h; omega
theorem map_inj {α β : Type} {e : α → β} (hi : ∀ a b, e a = e b → a = b) : ∀ l l' : List α, l.map e = l'.map e → l = l'
  | [], [], _ => rfl
  | [], _ :: _, h => by cases h
  | _ :: _, [], h => by cases h
  | a :: l, b :: l', h => by
    rw [List.map_cons, List.map_cons] at h
    injection h with h1 h2
    rw [hi a b h1, map_inj hi l l' h2]
theorem lI_inj (a b : List Nat) (h : lI a = lI b) : a = b := by unfold lI at h; injection h with h; exact map_inj (fun _ _ => nI_inj) _ _ h
theorem dI_inj (a b : List Nat) (h : dI a = dI b) : a = b := by unfold dI at h; injection h with h; exact map_inj (fun _ _ => nI_inj) _ _ h
theorem eq_lI (a b : List Nat) : pcmp .eq (lI a) (lI b) = .ok (leq a b) := eq_enc (e := lI) (lay_lI 63) nob_lI lI_inj a b
theorem eq_dI (a b : List Nat) : pcmp .eq (dI a) (dI b) = .ok (leq a b) := eq_enc (e := dI) (lay_dI 63) nob_dI dI_inj a b
theorem ne_lI (a b : List Nat) : pcmp .ne (lI a) (lI b) = .ok (!leq a b) := ne_enc (e := lI) (lay_lI 63) nob_lI lI_inj a b
theorem ne_dI (a b : List Nat) : pcmp .ne (dI a) (dI b) = .ok (!leq a b) := ne_enc (e := dI) (lay_dI 63) nob_dI dI_inj a b
theorem fold_l (l : List Nat) : PyData.list (l.map nI) = lI l := Eq.trans rfl rfl
theorem fold_t (l : List Nat) : PyData.tuple (l.map nI) = dI l := Eq.trans rfl rfl
theorem fold_l1 (a : Nat) : PyData.list [nI a] = lI [a] := Eq.trans rfl rfl
theorem isi_ni (a : Nat) : pisi (nI a) .int = .ok true := Eq.trans rfl rfl
theorem isi_nb (a : Nat) : pisi (nI a) .bool = .ok false := Eq.trans rfl rfl
theorem isi_nt (a : Nat) : pisi (nI a) .tuple = .ok false := Eq.trans rfl rfl
theorem isi_dt (l : List Nat) : pisi (dI l) .tuple = .ok true := Eq.trans rfl rfl
theorem isi_tt (l : List PyData) : pisi (.tuple l) .tuple = .ok true := Eq.trans rfl rfl
theorem isi_ss (x : Str) : pisi (.str x) .str = .ok true := Eq.trans rfl rfl
theorem boolsOf_map {α : Type} (l : List α) (p : α → Bool) : boolsOf (l.map fun a => PyData.bool (p a)) = some (l.map p) := by
  induction l with
  | nil => rfl
  | cons a r ih =>
    rw [List.map_cons, List.map_cons]
    show (boolsOf (r.map fun a => PyData.bool (p a))).map _ = _
    rw [ih]; rfl
theorem all_b {α : Type} (l : List α) (p : α → Bool) : pbi .all [.list (l.map fun a => PyData.bool (p a))] = .ok (.bool (l.all p)) := by
  show (match boolsOf (l.map fun a => PyData.bool (p a)) with | some bs => R.ok (PyData.bool (bs.all id)) | _ => .bad) = _
  rw [boolsOf_map]
  show R.ok (PyData.bool ((l.map p).all id)) = _
  rw [List.all_map]; rfl
theorem any_b {α : Type} (l : List α) (p : α → Bool) : pbi .any [.list (l.map fun a => PyData.bool (p a))] = .ok (.bool (l.any p)) := by
  show (match boolsOf (l.map fun a => PyData.bool (p a)) with | some bs => R.ok (PyData.bool (bs.any id)) | _ => .bad) = _
  rw [boolsOf_map]
  show R.ok (PyData.bool ((l.map p).any id)) = _
  rw [List.any_map]; rfl
theorem int_b (b : Bool) : pbi .int [.bool b] = .ok (nI (bif b then 1 else 0)) := by cases b <;> rfl
theorem min_n (a b : Nat) : pbi .min [nI a, nI b] = .ok (nI (min a b)) := by
  show R.ok (PyData.int (if (b : Int) < (a : Int) then (b : Int) else (a : Int))) = _
  unfold nI
  congr 2
  split <;> omega
theorem max_n (a b : Nat) : pbi .max [nI a, nI b] = .ok (nI (max a b)) := by
  show R.ok (PyData.int (if (b : Int) > (a : Int) then (b : Int) else (a : Int))) = _
  unfold nI
  congr 2
  split <;> omega
theorem mul_lI {l : List Nat} {k : Nat} (h : l.length ≤ 1000) (hk : k ≤ 1000) : pbin .mul (lI l) (nI k) = .ok (lI (List.replicate k l).flatten) := by
  show (if -(1000 : Int) ≤ (k : Int) ∧ (k : Int) ≤ 1000 ∧ (l.map nI).length ≤ 1000 then R.ok (PyData.list (List.replicate (k : Int).toNat (l.map nI)).flatten) else .bad) = _
  rw [if_pos ⟨by omega, by omega, by rw [List.length_map]; exact h⟩, Int.toNat_natCast]
  unfold lI
  rw [List.map_flatten, List.map_replicate]
theorem cat_lI {l l' : List Nat} (h : l.length + l'.length ≤ 1000000) : pbin .add (lI l) (lI l') = .ok (lI (l ++ l')) := by
  show (if (l.map nI).length + (l'.map nI).length ≤ LIM then R.ok (PyData.list (l.map nI ++ l'.map nI)) else .bad) = _
  rw [List.length_map, List.length_map, if_pos (by rw [LIM_eq]; exact h)]
  unfold lI; rw [List.map_append]
/-! ### sorted(set(..)), .index, in -/
theorem insN_eq (x : Nat) : ∀ l : List Nat, insS (x : Int) (l.map fun (i : Nat) => (i : Int)) = (insN x l).map fun (i : Nat) => (i : Int)
  | [] => rfl
  | y :: r => by
    unfold insN
    rw [List.map_cons]
    unfold insS
    by_cases h : x < y
    · rw [if_pos h, if_pos (by omega)]; rfl
    · rw [if_neg h, if_neg (by omega)]
      by_cases e : x = y
      · rw [if_pos e, if_pos (by omega)]; rfl
      · rw [if_neg e, if_neg (by omega), insN_eq x r]; rfl
theorem sset_eq : ∀ l : List Nat, sortSet (l.map fun (i : Nat) => (i : Int)) = (sset l).map fun (i : Nat) => (i : Int)
  | [] => rfl
  | y :: r => by
    show insS (y : Int) (sortSet (r.map fun (i : Nat) => (i : Int))) = _
    rw [sset_eq r, insN_eq]; rfl
theorem pss_l {l : List Nat} (h : l.length ≤ 4000) : pss (lI l) = .ok (lI (sset l)) := by
  show (match intsOf (l.map nI) with | some ns => if ns.length ≤ 4000 then R.ok (PyData.list ((sortSet ns).map .int)) else .bad | none => .bad) = _
  rw [intsOf_nI]
  show (if (l.map fun (i : Nat) => (i : Int)).length ≤ 4000 then R.ok (PyData.list ((sortSet (l.map fun (i : Nat) => (i : Int))).map .int)) else .bad) = _
  rw [List.length_map, if_pos h, sset_eq]
  unfold lI
  rw [List.map_map]; rfl
theorem pss_d {l : List Nat} (h : l.length ≤ 4000) : pss (dI l) = .ok (lI (sset l)) := by
  show (match intsOf (l.map nI) with | some ns => if ns.length ≤ 4000 then R.ok (PyData.list ((sortSet ns).map .int)) else .bad | none => .bad) = _
  rw [intsOf_nI]
  show (if (l.map fun (i : Nat) => (i : Int)).length ≤ 4000 then R.ok (PyData.list ((sortSet (l.map fun (i : Nat) => (i : Int))).map .int)) else .bad) = _
  rw [List.length_map, if_pos h, sset_eq]
  unfold lI
  rw [List.map_map]; rfl
theorem inData_n (a : Nat) : ∀ l : List Nat, inData (nI a) (l.map nI) = decide (a ∈ l)
  | [] => rfl
  | y :: r => by
    rw [List.map_cons, inData, inData_n a r, eqv_n, Bool.eq_iff_iff]
    simp only [Bool.or_eq_true, decide_eq_true_eq, List.mem_cons]
    constructor
    · rintro (h | h)
      · exact .inl h.symm
      · exact .inr h
    · rintro (h | h)
      · exact .inl h.symm
      · exact .inr h
theorem in_lI (a : Nat) (l : List Nat) : pcmp .isin (nI a) (lI l) = .ok (decide (a ∈ l)) := by
  show (if (lay 64 (nI a) && lay 64 (lI l)) = true then R.ok (inData (nI a) (l.map nI)) else .bad) = _
  rw [lay_n, lay_lI 63, if_pos (by rfl), inData_n]
theorem in_dI (a : Nat) (l : List Nat) : pcmp .isin (nI a) (dI l) = .ok (decide (a ∈ l)) := by
  show (if (lay 64 (nI a) && lay 64 (dI l)) = true then R.ok (inData (nI a) (l.map nI)) else .bad) = _
  rw [lay_n, lay_dI 63, if_pos (by rfl), inData_n]
theorem nin_lI (a : Nat) (l : List Nat) : pcmp .nin (nI a) (lI l) = .ok (!decide (a ∈ l)) := by
  show (pcmp .isin (nI a) (lI l)).bind (fun k => .ok (!k)) = _
  rw [in_lI]; rfl
theorem nin_dI (a : Nat) (l : List Nat) : pcmp .nin (nI a) (dI l) = .ok (!decide (a ∈ l)) := by
  show (pcmp .isin (nI a) (dI l)).bind (fun k => .ok (!k)) = _
  rw [in_dI]; rfl
theorem meOk_i (l : List Nat) : meOk .index (lI l) = true := Eq.trans rfl rfl
theorem meOk_L (l : List PyData) : meOk .index (.list l) = true := Eq.trans rfl rfl
theorem indexOf_n (a : Nat) : ∀ (l : List Nat) (k : Nat), a ∈ l → indexOf (nI a) k (l.map nI) = some (k + l.idxOf a)
  | y :: r, k, h => by
    rw [List.map_cons, indexOf, eqv_n, List.idxOf_cons]
    by_cases e : y = a
    · subst e
      simp
    · have h' : a ∈ r := by
        rcases List.mem_cons.mp h with z | z
        · exact (e z.symm).elim
        · exact z
      rw [if_neg (by simpa using e), indexOf_n a r (k + 1) h', beq_eq_false_iff_ne.mpr e]
      simp only [cond_false]
      congr 1; omega
theorem me_idx {a : Nat} {l : List Nat} (h : a ∈ l) : pmeth .index (lI l) [nI a] = .ok (nI (l.idxOf a)) := by
  show (if (lay 64 (nI a) && lay 64 (lI l)) = true then (match indexOf (nI a) 0 (l.map nI) with | some j => R.ok (PyData.int (j : Nat)) | none => .bad) else .bad) = _
  rw [lay_n, lay_lI 63, if_pos (by rfl), indexOf_n a l 0 h, Nat.zero_add]; rfl
theorem idx_len {a : Nat} {l : List Nat} (h : a ∈ l) : l.idxOf a < l.length := List.idxOf_lt_length_of_mem h
theorem sl_from {l : List Nat} {k : Nat} (h : k ≤ l.length) : psl (lI l) (some ((k : Nat) : Int)) none = .ok (lI (l.drop k)) := by
  show R.ok (PyData.list (cutL (l.map nI) (some (k : Int)) none)) = _
  unfold cutL lI
  congr 2
  have e : HT.sIx (l.map nI).length 0 (some (k : Int)) = k := by
    rw [HT.sIx_nat, List.length_map]; omega
  rw [e]
  show List.take ((l.map nI).length - k) (List.drop k (l.map nI)) = _
  rw [List.take_of_length_le (by rw [List.length_drop]; omega), List.map_drop]
theorem sl_to {l : List Nat} {k : Nat} (h : k ≤ l.length) : psl (dI l) none (some ((k : Nat) : Int)) = .ok (dI (l.take k)) := by
  show R.ok (PyData.tuple (cutL (l.map nI) none (some (k : Int)))) = _
  unfold cutL dI
  congr 2
  have e : HT.sIx (l.map nI).length (l.map nI).length (some (k : Int)) = k := by
    rw [HT.sIx_nat, List.length_map]; omega
  rw [e]
  show List.take (k - 0) (List.drop 0 (l.map nI)) = _
  rw [Nat.sub_zero, List.drop_zero, List.map_take]
theorem plo_n (a : Nat) : plo (nI a) = .ok (some (a : Int)) := Eq.trans rfl rfl
theorem plo_j (a : Nat) : plo (nJ a) = .ok (some (-(a : Int))) := Eq.trans rfl rfl
end Iv
end

section
/-! Pv3: sorted lists of whole numbers. -/
namespace Iv
open PySem
def nsort (l : List Nat) : List Nat := l.mergeSort (fun a b => decide (a ≤ b))
theorem nsort_perm (l : List Nat) : (nsort l).Perm l := List.mergeSort_perm _ _
theorem nsort_le (l : List Nat) : (nsort l).Pairwise (· ≤ ·) := by
  have := List.pairwise_mergeSort (le := fun a b : Nat => decide (a ≤ b)) (by intro a b c; simp; omega) (by intro a b; simp; omega) l
  exact this.imp fun h => of_decide_eq_true h
theorem le_unique : ∀ {l l' : List Nat}, l.Pairwise (· ≤ ·) → l'.Pairwise (· ≤ ·) → l.Perm l' → l = l'
  | [], l', _, _, h => h.nil_eq
  | a :: l, [], _, _, h => by have := h.length_eq; simp at this
  | a :: l, b :: l', h1, h2, h => by
    have h1' := List.pairwise_cons.mp h1
    have h2' := List.pairwise_cons.mp h2
    have e : a = b := by
      have ha : a ∈ b :: l' := h.mem_iff.mp (.head _)
      have hb : b ∈ a :: l := h.mem_iff.mpr (.head _)
      rcases List.mem_cons.mp ha with e | e
      · exact e
      · rcases List.mem_cons.mp hb with e' | e'
        · exact e'.symm
        · have x := h1'.1 b e'
          have y := h2'.1 a e
          omega
    subst e
    rw [le_unique h1'.2 h2'.2 (h.cons_inv)]
theorem nsort_eq {l l' : List Nat} (h : l'.Pairwise (· ≤ ·)) (p : l.Perm l') : nsort l = l' := le_unique (nsort_le l) h ((nsort_perm l).trans p)
theorem srt_nI (l : List Nat) : srt (l.map nI) = (nsort l).map nI := by
  unfold srt nsort
  rw [List.map_mergeSort]
  intro a _ b _
  have := congrFun (congrFun (W.dataLe_int (fun n : Nat => (n : Int))) a) b
  show _ = W.dataLe false (fun n : Nat => PyData.int (n : Int)) a b
  rw [this]
  rw [decide_eq_decide]; omega
theorem sortOk_nI {l : List Nat} (h : l.length ≤ 1000000) : sortOk (l.map nI) = true := by
  unfold sortOk
  rw [Bool.and_eq_true, Bool.and_eq_true, Bool.and_eq_true]
  refine ⟨⟨⟨?_, ?_⟩, ?_⟩, ?_⟩
  · rw [List.all_map, List.all_eq_true]
    intro a _
    show ((l.map nI).all fun d' => W.alike (nI a) d') = true
    rw [List.all_map, List.all_eq_true]
    intro b _
    show W.alike (nI a) (nI b) = true
    unfold nI; rw [W.alike]
  · rw [Bool.or_eq_true]
    refine .inr ?_
    rw [List.all_map, List.all_eq_true]
    intro a _; rfl
  · rw [List.all_map, List.all_eq_true]
    intro a _
    show decide ((nI a).depth ≤ 64) = true
    unfold nI; rw [PyData.depth] <;> simp
  · rw [decide_eq_true_eq, List.length_map, LIM_eq]; exact h
theorem sorted_I {l : List Nat} (h : l.length ≤ 1000000) : pbi .sorted [lI l] = .ok (lI (nsort l)) := by
  show (if sortOk (l.map nI) = true then R.ok (PyData.list (srt (l.map nI))) else .bad) = _
  rw [if_pos (sortOk_nI h), srt_nI]; rfl
theorem eqv_bool (a b : Bool) : PyData.eqv (.bool a) (.bool b) = (a == b) := by rw [PyData.eqv]
theorem eq_bb (a b : Bool) : pcmp .eq (.bool a) (.bool b) = .ok (a == b) := by
  show (if (lay 64 (.bool a) && lay 64 (.bool b)) = true then R.ok (PyData.eqv (.bool a) (.bool b)) else .bad) = _
  rw [lay_bool, lay_bool, if_pos (by rfl), eqv_bool]
theorem ne_bb (a b : Bool) : pcmp .ne (.bool a) (.bool b) = .ok (!(a == b)) := by
  show (if (lay 64 (.bool a) && lay 64 (.bool b)) = true then R.ok (!PyData.eqv (.bool a) (.bool b)) else .bad) = _
  rw [lay_bool, lay_bool, if_pos (by rfl), eqv_bool]
theorem map_dsnoc (l : List (List Nat)) (a : List Nat) : l.map dI ++ [dI a] = (l ++ [a]).map dI := by rw [List.map_append]; rfl
theorem sub_01 : pbin .sub (nI 0) (nI 1) = .ok (nJ 1) := Eq.trans rfl rfl
theorem max_0j : pbi .max [nI 0, nJ 1] = .ok (nI 0) := Eq.trans rfl rfl
theorem lay_LD (l : List (List Nat)) : lay 64 (.list (l.map dI)) = true := by
  rw [lay_list]; exact lay_map 63 l dI (lay_dI 62)
theorem lay_DD (l : List (List Nat)) : lay 64 (.tuple (l.map dI)) = true := by
  rw [lay_tuple]; exact lay_map 63 l dI (lay_dI 62)
theorem ne_LD (l : List (List Nat)) : pcmp .ne (.list (l.map dI)) (lI []) = .ok (!l.isEmpty) := by
  show (if (lay 64 (.list (l.map dI)) && lay 64 (lI [])) = true then R.ok (!PyData.eqv (.list (l.map dI)) (lI [])) else .bad) = _
  rw [lay_LD, lay_lI 63, if_pos (by rfl)]
  cases l with
  | nil => rfl
  | cons a r =>
    unfold lI
    rw [List.map_cons, PyData.eqv, List.map_nil, PyData.eqvAll]
    · rfl
    all_goals simp
theorem ne_DD (l : List (List Nat)) : pcmp .ne (.tuple (l.map dI)) (dI []) = .ok (!l.isEmpty) := by
  show (if (lay 64 (.tuple (l.map dI)) && lay 64 (dI [])) = true then R.ok (!PyData.eqv (.tuple (l.map dI)) (dI [])) else .bad) = _
  rw [lay_DD, lay_dI 63, if_pos (by rfl)]
  cases l with
  | nil => rfl
  | cons a r =>
    unfold dI
    rw [List.map_cons, PyData.eqv, List.map_nil, PyData.eqvAll]
    · rfl
    all_goals simp
/-! two ways joined -/
theorem cond_nx (c : Bool) (a b : Env) : (bif c then Fl.nx a else Fl.nx b) = Fl.nx (bif c then a else b) := by cases c <;> rfl
theorem cond_cons {α : Type} (c : Bool) (x y : α) (l l' : List α) : (bif c then x :: l else y :: l') = (bif c then x else y) :: (bif c then l else l') := by cases c <;> rfl
theorem cond_same {α : Type} (c : Bool) (x : α) : (bif c then x else x) = x := by cases c <;> rfl
theorem cond_val (c : Bool) (x y : PyData) : (bif c then Slot.val x else Slot.val y) = Slot.val (bif c then x else y) := by cases c <;> rfl
theorem cond_dI (c : Bool) (x y : List Nat) : (bif c then dI x else dI y) = dI (bif c then x else y) := by cases c <;> rfl
theorem cond_lI (c : Bool) (x y : List Nat) : (bif c then lI x else lI y) = lI (bif c then x else y) := by cases c <;> rfl
theorem cond_nI (c : Bool) (x y : Nat) : (bif c then nI x else nI y) = nI (bif c then x else y) := by cases c <;> rfl
/-- a list's last -/
theorem ix_dlast {l : List Nat} (h : l ≠ []) : pix (dI l) (nJ 1) = .ok (nI (l.getLastD 0)) := by
  have e : l = l.dropLast ++ [l.getLastD 0] := by
    rw [List.getLastD_eq_getLast?, List.getLast?_eq_some_getLast h]
    exact (List.dropLast_concat_getLast h).symm
  have := ix_last (l.dropLast.map nI) (nI (l.getLastD 0))
  show pix (.tuple (l.map nI)) (nJ 1) = _
  rw [← this]
  conv => lhs; rw [e, List.map_append]
  rfl
end Iv
end

section
/-! Am: a maker's plain mathematics (no program in sight). -/
namespace Iv
/-- stands 0 .. n-1; the next, the face; how many faces -/
structure Am where
  n : Nat
  f : Nat → Nat
  g : Nat → Nat
  k : Nat
namespace Am
structure Ok (A : Am) : Prop where
  pos : 0 < A.n
  le : A.n ≤ 64
  f_lt : ∀ s, A.f s < A.n
  g_lt : ∀ s, A.g s < A.k
  k2 : 2 ≤ A.k
  k6 : A.k ≤ 6
variable (A : Am)
/-- the stand behind so many steps -/
def go : Nat → Nat → Nat
  | s, 0 => s
  | s, m + 1 => go (A.f s) m
/-- the faces drawn -/
def row : Nat → Nat → List Nat
  | _, 0 => []
  | s, m + 1 => A.g s :: row (A.f s) m
theorem go_succ : ∀ (m s : Nat), A.go s (m + 1) = A.f (A.go s m)
  | 0, s => rfl
  | m + 1, s => by rw [go, go_succ m]; rfl
theorem go_add : ∀ (a b s : Nat), A.go s (a + b) = A.go (A.go s a) b
  | 0, b, s => by rw [Nat.zero_add]; rfl
  | a + 1, b, s => by rw [show a + 1 + b = (a + b) + 1 by omega, go, go_add a b]; rfl
theorem row_succ : ∀ (m s : Nat), A.row s (m + 1) = A.row s m ++ [A.g (A.go s m)]
  | 0, s => rfl
  | m + 1, s => by rw [row, row_succ m]; rfl
theorem row_len : ∀ (m s : Nat), (A.row s m).length = m
  | 0, s => rfl
  | m + 1, s => by rw [row, List.length_cons, row_len m]
theorem row_add : ∀ (a b s : Nat), A.row s (a + b) = A.row s a ++ A.row (A.go s a) b
  | 0, b, s => by rw [Nat.zero_add]; rfl
  | a + 1, b, s => by rw [show a + 1 + b = (a + b) + 1 by omega, row, row_add a b]; rfl
theorem row_get : ∀ (m s i : Nat), i < m → (A.row s m)[i]? = some (A.g (A.go s i))
  | m + 1, s, 0, _ => rfl
  | m + 1, s, i + 1, h => by
    rw [row, List.getElem?_cons_succ, row_get m (A.f s) i (by omega)]; rfl
variable {A}
theorem go_lt (h : A.Ok) {s : Nat} (hs : s < A.n) : ∀ m, A.go s m < A.n
  | 0 => hs
  | m + 1 => by rw [go_succ]; exact h.f_lt _
theorem row_lt (h : A.Ok) : ∀ (m s : Nat), ∀ x ∈ A.row s m, x < A.k
  | 0, _, x, hx => by cases hx
  | m + 1, s, x, hx => by
    rw [row] at hx
    rcases List.mem_cons.mp hx with rfl | hx
    · exact h.g_lt _
    · exact row_lt h m _ x hx
end Am
end Iv
namespace Iv
namespace Am
variable (A : Am)
/-- the stands from which a row comes -/
def frm (r : List Nat) : List Nat := (List.range A.n).filter fun s => leq (A.row s r.length) r
theorem mem_frm {r : List Nat} {s : Nat} : s ∈ A.frm r ↔ s < A.n ∧ A.row s r.length = r := by
  unfold frm; rw [List.mem_filter, List.mem_range, leq_iff]
/-- where one may be behind a face, of some stands -/
def nxt (l : List Nat) (c : Nat) : List Nat := sset ((l.filter fun x => decide (A.g x = c)).map A.f)
/-- the stands at which one may be behind a row -/
def ats (r : List Nat) : List Nat := r.foldl A.nxt (List.range A.n)
/-- the faces that may come next -/
def may (r : List Nat) : List Nat := sset ((A.ats r).map A.g)
theorem mem_nxt {l : List Nat} {c y : Nat} : y ∈ A.nxt l c ↔ ∃ x, x ∈ l ∧ A.g x = c ∧ A.f x = y := by
  unfold nxt
  rw [mem_sset, List.mem_map]
  constructor
  · rintro ⟨x, hx, rfl⟩
    rw [List.mem_filter, decide_eq_true_eq] at hx
    exact ⟨x, hx.1, hx.2, rfl⟩
  · rintro ⟨x, h1, h2, rfl⟩
    exact ⟨x, List.mem_filter.mpr ⟨h1, decide_eq_true h2⟩, rfl⟩
theorem ats_snoc (r : List Nat) (c : Nat) : A.ats (r ++ [c]) = A.nxt (A.ats r) c := by
  unfold ats; rw [List.foldl_append]; rfl
theorem nxt_inc (l : List Nat) (c : Nat) : (A.nxt l c).Pairwise (· < ·) := sset_inc _
variable {A}
theorem nxt_lt (h : A.Ok) {l : List Nat} {c y : Nat} (hy : y ∈ A.nxt l c) : y < A.n := by
  obtain ⟨x, _, _, rfl⟩ := A.mem_nxt.mp hy
  exact h.f_lt x
theorem nxt_len (h : A.Ok) (l : List Nat) (c : Nat) : (A.nxt l c).length ≤ A.n := by
  have := inc_len (k := A.n) (A.nxt l c) 0 (A.nxt_inc l c) fun t ht => ⟨Nat.zero_le _, nxt_lt h ht⟩
  omega
theorem ats_good (h : A.Ok) (r : List Nat) : (A.ats r).Pairwise (· < ·) ∧ (∀ y ∈ A.ats r, y < A.n) ∧ (A.ats r).length ≤ A.n := by
  refine snoc_ind (P := fun r => (A.ats r).Pairwise (· < ·) ∧ (∀ y ∈ A.ats r, y < A.n) ∧ (A.ats r).length ≤ A.n) ?_ (fun r c ih => ?_) r
  · exact ⟨range_inc _, fun y hy => List.mem_range.mp hy, Nat.le_of_eq List.length_range⟩
  · rw [A.ats_snoc]
    exact ⟨A.nxt_inc _ _, fun y hy => nxt_lt h hy, nxt_len h _ _⟩
/-- behind a row are those so many steps behind the stands from which it comes -/
theorem mem_ats (h : A.Ok) (r : List Nat) (y : Nat) : y ∈ A.ats r ↔ ∃ s, s < A.n ∧ A.row s r.length = r ∧ A.go s r.length = y := by
  revert y
  refine snoc_ind (P := fun r => ∀ y, y ∈ A.ats r ↔ ∃ s, s < A.n ∧ A.row s r.length = r ∧ A.go s r.length = y) ?_ (fun r c ih => ?_) r
  · intro y
    show y ∈ List.range A.n ↔ _
    rw [List.mem_range]
    exact ⟨fun z => ⟨y, z, rfl, rfl⟩, fun ⟨s, z, _, e⟩ => by rw [← e]; exact z⟩
  · intro y
    rw [A.ats_snoc, A.mem_nxt, List.length_append]
    constructor
    · rintro ⟨x, hx, hg, rfl⟩
      obtain ⟨s, hs, h1, rfl⟩ := (ih x).mp hx
      refine ⟨s, hs, ?_, A.go_succ _ _⟩
      show A.row s (r.length + 1) = _
      rw [A.row_succ, h1, hg]
    · rintro ⟨s, hs, h1, rfl⟩
      have e : A.row s (r.length + 1) = r ++ [c] := h1
      rw [A.row_succ] at e
      obtain ⟨e1, e2⟩ := List.append_inj e (by rw [A.row_len])
      refine ⟨A.go s r.length, (ih _).mpr ⟨s, hs, e1, rfl⟩, ?_, (A.go_succ _ _).symm⟩
      injection e2
end Am
end Iv
namespace Iv
namespace Am
variable {A : Am}
theorem mem_frm_snoc (r : List Nat) (c s : Nat) : s ∈ A.frm (r ++ [c]) ↔ s ∈ A.frm r ∧ A.g (A.go s r.length) = c := by
  rw [mem_frm, mem_frm, List.length_append]
  show s < A.n ∧ A.row s (r.length + 1) = r ++ [c] ↔ _
  rw [A.row_succ]
  constructor
  · rintro ⟨h1, e⟩
    obtain ⟨e1, e2⟩ := List.append_inj e (by rw [A.row_len])
    injection e2 with e2
    exact ⟨⟨h1, e1⟩, e2⟩
  · rintro ⟨⟨h1, e1⟩, e2⟩
    rw [e1, e2]; exact ⟨h1, rfl⟩
theorem ats_frm (h : A.Ok) (r : List Nat) : sset ((A.frm r).map fun s => A.go s r.length) = A.ats r :=
  incN_unique (sset_inc _) (ats_good h r).1 fun y => by
    rw [mem_sset, mem_ats h, List.mem_map]
    constructor
    · rintro ⟨s, hs, e⟩
      have := A.mem_frm.mp hs
      exact ⟨s, this.1, this.2, e⟩
    · rintro ⟨s, h1, h2, e⟩
      exact ⟨s, A.mem_frm.mpr ⟨h1, h2⟩, e⟩
theorem mem_may (h : A.Ok) (r : List Nat) (c : Nat) : c ∈ A.may r ↔ ∃ s, s ∈ A.frm r ∧ A.g (A.go s r.length) = c := by
  unfold may
  rw [mem_sset, List.mem_map]
  constructor
  · rintro ⟨y, hy, e⟩
    obtain ⟨s, h1, h2, rfl⟩ := (mem_ats h r y).mp hy
    exact ⟨s, A.mem_frm.mpr ⟨h1, h2⟩, e⟩
  · rintro ⟨s, hs, e⟩
    have := A.mem_frm.mp hs
    exact ⟨_, (mem_ats h r _).mpr ⟨s, this.1, this.2, rfl⟩, e⟩
theorem frm_may (h : A.Ok) (r : List Nat) (c : Nat) : (!leq (A.frm (r ++ [c])) []) = decide (c ∈ A.may r) := by
  rw [Bool.eq_iff_iff, decide_eq_true_eq, mem_may h, Bool.not_eq_true']
  constructor
  · intro e
    cases q : A.frm (r ++ [c]) with
    | nil => rw [q, leq_self] at e; cases e
    | cons s l =>
      have : s ∈ A.frm (r ++ [c]) := by rw [q]; exact .head _
      exact ⟨s, (mem_frm_snoc r c s).mp this⟩
  · rintro ⟨s, h1, h2⟩
    refine leq_f fun e => ?_
    have := (mem_frm_snoc r c s).mpr ⟨h1, h2⟩
    rw [e] at this; cases this
theorem frm_inc (r : List Nat) : (A.frm r).Pairwise (· < ·) := filter_inc (range_inc _) _
theorem frm_len (r : List Nat) : (A.frm r).length ≤ A.n := by
  have := List.length_filter_le (fun s => leq (A.row s r.length) r) (List.range A.n)
  rw [List.length_range] at this
  exact this
/-- the stands parted by the next face -/
def parted (A : Am) (r : List Nat) (i : Nat) : List Nat := ((List.range i).map fun c => A.frm (r ++ [c])).flatten
theorem parted_succ (r : List Nat) (i : Nat) : A.parted r (i + 1) = A.parted r i ++ A.frm (r ++ [i]) := by
  unfold parted
  rw [List.range_succ, List.map_append, List.flatten_append]
  simp
theorem mem_parted (r : List Nat) (i s : Nat) : s ∈ A.parted r i ↔ s ∈ A.frm r ∧ A.g (A.go s r.length) < i := by
  unfold parted
  rw [List.mem_flatten]
  constructor
  · rintro ⟨l, hl, hs⟩
    obtain ⟨c, hc, rfl⟩ := List.mem_map.mp hl
    obtain ⟨h1, h2⟩ := (mem_frm_snoc r c s).mp hs
    exact ⟨h1, by rw [h2]; exact List.mem_range.mp hc⟩
  · rintro ⟨h1, h2⟩
    exact ⟨_, List.mem_map.mpr ⟨_, List.mem_range.mpr h2, rfl⟩, (mem_frm_snoc r _ s).mpr ⟨h1, rfl⟩⟩
theorem parted_nodup (r : List Nat) : ∀ i, (A.parted r i).Nodup
  | 0 => List.nodup_nil
  | i + 1 => by
    rw [parted_succ, List.nodup_append]
    refine ⟨parted_nodup r i, (frm_inc _).imp fun h => Nat.ne_of_lt h, fun a ha b hb e => ?_⟩
    subst e
    have h1 := ((mem_parted r i a).mp ha).2
    have h2 := ((mem_frm_snoc r i a).mp hb).2
    omega
theorem parted_len (r : List Nat) : ∀ i, (A.parted r i).length ≤ i * A.n
  | 0 => by simp [parted]
  | i + 1 => by
    have := parted_len r i
    have := frm_len (A := A) (r ++ [i])
    rw [parted_succ, List.length_append, Nat.succ_mul]
    omega
theorem parted_perm (h : A.Ok) (r : List Nat) : (A.parted r A.k).Perm (A.frm r) :=
  (List.perm_ext_iff_of_nodup (parted_nodup r _) ((frm_inc _).imp fun h => Nat.ne_of_lt h)).mpr fun s => by
    rw [mem_parted]
    exact ⟨fun z => z.1, fun z => ⟨z, h.g_lt _⟩⟩
end Am
end Iv
end

section
namespace Iv
open PySem
def b_power : S := (.seq (.set 2 (.c (nI 1))) (.seq (.for_ (.nm 3) (.r1 (.v 1)) (.set 2 (.bin .mul (.v 2) (.v 0)))) (.ret (.v 2))))
theorem forS_nat {F : Str → List PyData → R PyData} {b : S} {t : Nat} (ρ : Nat → Env) : ∀ (n k : Nat), (∀ i, k ≤ i → i < k + n → ex F b ((ρ i).set t (.val (nI i))) = .nx (ρ (i + 1))) → forS F (.nm t) b ((List.range' k n).map nI) (ρ k) = .nx (ρ (k + n))
  | 0, k, _ => rfl
  | n + 1, k, h => by
    rw [List.range'_succ, List.map_cons]
    show (match ex F b ((ρ k).set t (.val (nI k))) with | .nx ρ' => forS F (.nm t) b ((List.range' (k + 1) n).map nI) ρ' | .ct ρ' => forS F (.nm t) b ((List.range' (k + 1) n).map nI) ρ' | .bk ρ' => .nx ρ' | o => o) = _
    rw [h k (Nat.le_refl _) (by omega)]
    show forS F (.nm t) b ((List.range' (k + 1) n).map nI) (ρ (k + 1)) = _
    rw [forS_nat ρ n (k + 1) fun i h1 h2 => h i (by omega) (by omega)]
    congr 2; omega
theorem forS_range {F : Str → List PyData → R PyData} {b : S} {t n : Nat} {ρ0 : Env} (ρ : Nat → Env) (h0 : ρ0 = ρ 0) (h : ∀ i, i < n → ex F b ((ρ i).set t (.val (nI i))) = .nx (ρ (i + 1))) : forS F (.nm t) b ((List.range n).map nI) ρ0 = .nx (ρ n) := by
  have := forS_nat (F := F) (b := b) (t := t) ρ n 0 fun i _ h2 => h i (by omega)
  rw [Nat.zero_add, ← List.range_eq_range'] at this
  rw [h0]; exact this
/-- a loop's own name ahead of turn i -/
def lv : Nat → Slot
  | 0 => .nul
  | i + 1 => .val (nI i)
section
variable {DS : List Def} [Has DS "power" 2 4 b_power]
theorem run_power (n b k : Nat) (hb : b < 1000000) (hk : k < 1000000) : runF DS (n + 1) "power" [nI b, nI k] = .ok (nI (b ^ k)) := by
  rw [run_has n _ rfl]
  simp (disch := first | omega | with_reducible assumption | (simp only [List.length_cons, List.length_nil, List.length_append, List.length_map, List.length_range, Am.row_len]; omega)) only [b_power, v_c, v_g, v_v, v_bin, v_neg, v_cmp, v_chain, v_and, v_or, v_not, v_ix, v_sl, v_rev, v_tup, v_lst, v_call, v_bi, v_rng, v_srtSet, v_meth, v_isi, v_dnew, v_srtKey, vs_nil, vs_cons, vr_nil, vr_cons, vo_no, vo_so, vc_e, vc_own, vc_1, vc_2, vc_en, vc_zip, v_comp1, v_comp1c, v_comp2, x_pass, x_seq, x_frz, x_set, x_setO, x_unp, x_par, x_par3, x_iff, x_ret, x_retN, x_rai, x_exp, x_cont, x_for, x_whl, x_app, x_ext, x_pop0, x_setIx, own_s, kApp_L, kApp_I, kExt_L, kExt_I, kSet_L, kSet_I, kSet_T, kSet_K, R.bind_ok, R.fl_ok, R.nox_ok, then_kS, fl_kFor, then_rt, then_exc, toR_rt, toR_exc, asB_b, rd_val, rd_own, onx_s, List.getElem?_cons_zero, List.getElem?_cons_succ, List.set_cons_zero, List.set_cons_succ, List.map_cons, List.map_nil, List.cons_append, List.nil_append, List.replicate_succ, List.replicate_zero, Nat.reduceSub, Nat.sub_zero, cond_true, cond_false, cond_b1, cond_b2, Bool.not_true, Bool.not_false, List.length_cons, List.length_nil, Nat.zero_add, Nat.reduceAdd, b_nm, b_tup, bs_nil, bs_cons, b_some, frzE, own_I, own_L, own_T, own_K, n_add, n_mulL, n_mulR, n_sub, n_mod, n_div, n_lt, n_le, n_gt, n_ge, n_eq, n_ne, n_neg, ↓cmpr_map, ↓cmpA_map, ↓cmpA_range, cmpA_ok, cmpA_okc, cmpN_ok, cmpN_okc, cmpA_none, cmpN_none, gd_t, gd_k, r1_n, rng_t, rng_l, psk_ok, ix_t0, ix_t1, ix_t2, ix_t3, ix_t4, ix_m4, ix_m5, ix_dI, ix_lI, len_t, len_l, len_dI, len_lI, src_d, src_l, src_L, src_T, srcO_L, srcO_I, tup_l, tup_lI, tup_t, tup_dI, lst_dI, lst_lI, lst_t, fold_lI, fold_dI, sum_lI, cat_dI, tup1_n, tup0_n, lst0_n, papp_I, papp_L, fold_snoc, fold_set, pext_L, psetI_I, psetL_I, fold_l, fold_t, fold_l1, pss_l, pss_d, in_lI, in_dI, nin_lI, nin_dI, meOk_i, meOk_L, me_idx, sl_from, sl_to, plo_n, plo_j, isi_ni, isi_nb, isi_nt, isi_dt, isi_tt, isi_ss, all_b, any_b, eq_lI, eq_dI, ne_lI, ne_dI, int_b, min_n, max_n, mul_lI, cat_lI, sorted_I, eq_bb, ne_bb, map_dsnoc, sub_01, max_0j, ne_LD, ne_DD]
  rw [forS_range (fun i => [.val (nI b), .val (nI k), .val (nI (b ^ i)), lv i]) ?_ fun i hi => ?_]
  · simp (disch := first | omega | with_reducible assumption | (simp only [List.length_cons, List.length_nil, List.length_append, List.length_map, List.length_range, Am.row_len]; omega)) only [v_c, v_g, v_v, v_bin, v_neg, v_cmp, v_chain, v_and, v_or, v_not, v_ix, v_sl, v_rev, v_tup, v_lst, v_call, v_bi, v_rng, v_srtSet, v_meth, v_isi, v_dnew, v_srtKey, vs_nil, vs_cons, vr_nil, vr_cons, vo_no, vo_so, vc_e, vc_own, vc_1, vc_2, vc_en, vc_zip, v_comp1, v_comp1c, v_comp2, x_pass, x_seq, x_frz, x_set, x_setO, x_unp, x_par, x_par3, x_iff, x_ret, x_retN, x_rai, x_exp, x_cont, x_for, x_whl, x_app, x_ext, x_pop0, x_setIx, own_s, kApp_L, kApp_I, kExt_L, kExt_I, kSet_L, kSet_I, kSet_T, kSet_K, R.bind_ok, R.fl_ok, R.nox_ok, then_kS, fl_kFor, then_rt, then_exc, toR_rt, toR_exc, asB_b, rd_val, rd_own, onx_s, List.getElem?_cons_zero, List.getElem?_cons_succ, List.set_cons_zero, List.set_cons_succ, List.map_cons, List.map_nil, List.cons_append, List.nil_append, List.replicate_succ, List.replicate_zero, Nat.reduceSub, Nat.sub_zero, cond_true, cond_false, cond_b1, cond_b2, Bool.not_true, Bool.not_false, List.length_cons, List.length_nil, Nat.zero_add, Nat.reduceAdd, b_nm, b_tup, bs_nil, bs_cons, b_some, frzE, own_I, own_L, own_T, own_K]
  · rfl
  · simp (disch := first | omega | with_reducible assumption | (simp only [List.length_cons, List.length_nil, List.length_append, List.length_map, List.length_range, Am.row_len]; omega)) only [v_c, v_g, v_v, v_bin, v_neg, v_cmp, v_chain, v_and, v_or, v_not, v_ix, v_sl, v_rev, v_tup, v_lst, v_call, v_bi, v_rng, v_srtSet, v_meth, v_isi, v_dnew, v_srtKey, vs_nil, vs_cons, vr_nil, vr_cons, vo_no, vo_so, vc_e, vc_own, vc_1, vc_2, vc_en, vc_zip, v_comp1, v_comp1c, v_comp2, x_pass, x_seq, x_frz, x_set, x_setO, x_unp, x_par, x_par3, x_iff, x_ret, x_retN, x_rai, x_exp, x_cont, x_for, x_whl, x_app, x_ext, x_pop0, x_setIx, own_s, kApp_L, kApp_I, kExt_L, kExt_I, kSet_L, kSet_I, kSet_T, kSet_K, R.bind_ok, R.fl_ok, R.nox_ok, then_kS, fl_kFor, then_rt, then_exc, toR_rt, toR_exc, asB_b, rd_val, rd_own, onx_s, List.getElem?_cons_zero, List.getElem?_cons_succ, List.set_cons_zero, List.set_cons_succ, List.map_cons, List.map_nil, List.cons_append, List.nil_append, List.replicate_succ, List.replicate_zero, Nat.reduceSub, Nat.sub_zero, cond_true, cond_false, cond_b1, cond_b2, Bool.not_true, Bool.not_false, List.length_cons, List.length_nil, Nat.zero_add, Nat.reduceAdd, b_nm, b_tup, bs_nil, bs_cons, b_some, frzE, own_I, own_L, own_T, own_K, n_add, n_mulL, n_mulR, n_sub, n_mod, n_div, n_lt, n_le, n_gt, n_ge, n_eq, n_ne, n_neg, ↓cmpr_map, ↓cmpA_map, ↓cmpA_range, cmpA_ok, cmpA_okc, cmpN_ok, cmpN_okc, cmpA_none, cmpN_none, gd_t, gd_k, r1_n, rng_t, rng_l, psk_ok, ix_t0, ix_t1, ix_t2, ix_t3, ix_t4, ix_m4, ix_m5, ix_dI, ix_lI, len_t, len_l, len_dI, len_lI, src_d, src_l, src_L, src_T, srcO_L, srcO_I, tup_l, tup_lI, tup_t, tup_dI, lst_dI, lst_lI, lst_t, fold_lI, fold_dI, sum_lI, cat_dI, tup1_n, tup0_n, lst0_n, papp_I, papp_L, fold_snoc, fold_set, pext_L, psetI_I, psetL_I, fold_l, fold_t, fold_l1, pss_l, pss_d, in_lI, in_dI, nin_lI, nin_dI, meOk_i, meOk_L, me_idx, sl_from, sl_to, plo_n, plo_j, isi_ni, isi_nb, isi_nt, isi_dt, isi_tt, isi_ss, all_b, any_b, eq_lI, eq_dI, ne_lI, ne_dI, int_b, min_n, max_n, mul_lI, cat_lI, sorted_I, eq_bb, ne_bb, map_dsnoc, sub_01, max_0j, ne_LD, ne_DD]
    rfl
end
/-! ### makers -/
inductive Mk where
  | sums (m a b f : Nat) | bits (k : Nat) (taps : List Nat) (f : Nat) | table (nx sd : List Nat) (f : Nat)
namespace Mk
def d : Mk → PyData
  | sums m a b f => .tuple [.str "sums", nI m, nI a, nI b, nI f]
  | bits k taps f => .tuple [.str "bits", nI k, dI taps, nI f]
  | table nx sd f => .tuple [.str "table", dI nx, dI sd, nI f]
def size : Mk → Nat
  | sums m _ _ _ => m
  | bits k _ _ => 2 ^ k
  | table nx _ _ => nx.length
def faces : Mk → Nat
  | sums _ _ _ f => f
  | bits _ _ f => f
  | table _ _ f => f
def odd (taps : List Nat) (s : Nat) : Nat := (taps.map fun t => s / 2 ^ t % 2).sum % 2
def step : Mk → Nat → Nat
  | sums m a b _, s => (a * s + b) % m
  | bits k taps _, s => 2 * s % 2 ^ k + odd taps s
  | table nx _ _, s => (nx[s]?).getD 0
def face : Mk → Nat → Nat
  | sums m _ _ f, s => s * f / m
  | bits _ _ f, s => s % f
  | table _ sd _, s => (sd[s]?).getD 0
def ok : Mk → Prop
  | sums m a b f => 1 ≤ m ∧ m ≤ 64 ∧ a < 64 ∧ b < 64 ∧ 2 ≤ f ∧ f ≤ 6
  | bits k taps f => 1 ≤ k ∧ k ≤ 6 ∧ taps ≠ [] ∧ taps.Pairwise (· < ·) ∧ (∀ t ∈ taps, t < k) ∧ 2 ≤ f ∧ f ≤ 6
  | table nx sd f => 1 ≤ nx.length ∧ nx.length ≤ 64 ∧ sd.length = nx.length ∧ (∀ g ∈ nx, g < nx.length) ∧ (∀ g ∈ sd, g < f) ∧ 2 ≤ f ∧ f ≤ 6
theorem odd_lt (taps : List Nat) (s : Nat) : odd taps s < 2 := Nat.mod_lt _ (by decide)
theorem size_pos {M : Mk} (h : M.ok) : 0 < M.size := by
  cases M with
  | sums => exact h.1
  | bits k _ _ => exact Nat.pow_pos (by decide)
  | table => exact h.1
theorem size_le {M : Mk} (h : M.ok) : M.size ≤ 64 := by
  cases M with
  | sums => exact h.2.1
  | bits k _ _ => exact Nat.pow_le_pow_right (n := 2) (by decide) h.2.1
  | table => exact h.2.1
theorem step_lt {M : Mk} (h : M.ok) {s : Nat} (hs : s < M.size) : M.step s < M.size := by
  cases M with
  | sums m a b f => exact Nat.mod_lt _ h.1
  | bits k taps f =>
    obtain ⟨h1, _⟩ := h
    obtain ⟨j, rfl⟩ : ∃ j, k = j + 1 := ⟨k - 1, by omega⟩
    have e : 2 ^ (j + 1) = 2 * 2 ^ j := by rw [Nat.pow_succ, Nat.mul_comm]
    show 2 * s % 2 ^ (j + 1) + odd taps s < 2 ^ (j + 1)
    have := odd_lt taps s
    rw [e, Nat.mul_mod_mul_left]
    have := Nat.mod_lt s (Nat.pow_pos (n := j) (by decide : 0 < 2))
    omega
  | table nx sd f =>
    have hs' : s < nx.length := hs
    show (nx[s]?).getD 0 < nx.length
    rw [List.getElem?_eq_getElem hs']
    exact h.2.2.2.1 _ (List.getElem_mem hs')
theorem face_lt {M : Mk} (h : M.ok) {s : Nat} (hs : s < M.size) : M.face s < M.faces := by
  cases M with
  | sums m a b f =>
    have hs' : s < m := hs
    show s * f / m < f
    exact Nat.div_lt_of_lt_mul (by rw [Nat.mul_comm m f, Nat.mul_comm s f]; exact Nat.mul_lt_mul_of_pos_left hs' (by obtain ⟨_, _, _, _, q, _⟩ := h; omega))
  | bits k taps f => exact Nat.mod_lt _ (by obtain ⟨_, _, _, _, _, q, _⟩ := h; omega)
  | table nx sd f =>
    have hs' : s < sd.length := by rw [h.2.2.1]; exact hs
    show (sd[s]?).getD 0 < f
    rw [List.getElem?_eq_getElem hs']
    exact h.2.2.2.2.1 _ (List.getElem_mem hs')
end Mk
theorem eqv_str (x y : Str) : PyData.eqv (.str x) (.str y) = decide (x = y) := by
  rw [Bool.eq_iff_iff]; simp [PyData.eqv]
theorem c_eqs {x y : Str} (hx : PyData.strOk x = true) (hy : PyData.strOk y = true) : pcmp .eq (.str x) (.str y) = .ok (decide (x = y)) := by
  simp [pcmp, SeqAt.shaped, eqv_str, PyData.canLay0, PyData.depth, hx, hy]
theorem so_0 : PyData.strOk ("sums" : Str) = true := by decide +kernel
theorem so_1 : PyData.strOk ("bits" : Str) = true := by decide +kernel
theorem so_2 : PyData.strOk ("table" : Str) = true := by decide +kernel
theorem cs_00 : pcmp .eq (.str "sums") (.str "sums") = .ok true := (c_eqs so_0 so_0).trans (by rw [decide_eq_true rfl])
theorem cs_01 : pcmp .eq (.str "sums") (.str "bits") = .ok false := (c_eqs so_0 so_1).trans (by rw [decide_eq_false (by decide +kernel)])
theorem cs_02 : pcmp .eq (.str "sums") (.str "table") = .ok false := (c_eqs so_0 so_2).trans (by rw [decide_eq_false (by decide +kernel)])
theorem cs_10 : pcmp .eq (.str "bits") (.str "sums") = .ok false := (c_eqs so_1 so_0).trans (by rw [decide_eq_false (by decide +kernel)])
theorem cs_11 : pcmp .eq (.str "bits") (.str "bits") = .ok true := (c_eqs so_1 so_1).trans (by rw [decide_eq_true rfl])
theorem cs_12 : pcmp .eq (.str "bits") (.str "table") = .ok false := (c_eqs so_1 so_2).trans (by rw [decide_eq_false (by decide +kernel)])
theorem cs_20 : pcmp .eq (.str "table") (.str "sums") = .ok false := (c_eqs so_2 so_0).trans (by rw [decide_eq_false (by decide +kernel)])
theorem cs_21 : pcmp .eq (.str "table") (.str "bits") = .ok false := (c_eqs so_2 so_1).trans (by rw [decide_eq_false (by decide +kernel)])
theorem cs_22 : pcmp .eq (.str "table") (.str "table") = .ok true := (c_eqs so_2 so_2).trans (by rw [decide_eq_true rfl])
def b_stands : S := (.seq (.iff (.cmp .eq (.ix (.v 0) (.c (nI 0))) (.g "SUMS" (.str "sums"))) (.ret (.ix (.v 0) (.c (nI 1)))) .pass) (.seq (.iff (.cmp .eq (.ix (.v 0) (.c (nI 0))) (.g "BITS" (.str "bits"))) (.ret (.call "power" (.cons (.c (nI 2)) (.cons (.ix (.v 0) (.c (nI 1))) .nil)))) .pass) (.ret (.bi .len (.cons (.ix (.v 0) (.c (nI 1))) .nil)))))
def b_step : S := (.seq (.iff (.cmp .eq (.ix (.v 0) (.c (nI 0))) (.g "SUMS" (.str "sums"))) (.ret (.bin .mod (.bin .add (.bin .mul (.ix (.v 0) (.c (nI 2))) (.v 1)) (.ix (.v 0) (.c (nI 3)))) (.ix (.v 0) (.c (nI 1))))) .pass) (.seq (.iff (.cmp .eq (.ix (.v 0) (.c (nI 0))) (.g "BITS" (.str "bits"))) (.seq (.set 2 (.bin .mod (.bi .sum (.cons (.comp (.nm 3) (.e (.ix (.v 0) (.c (nI 2)))) .no (.bin .mod (.bin .div (.v 1) (.call "power" (.cons (.c (nI 2)) (.cons (.v 3) .nil)))) (.c (nI 2))) [3]) .nil)) (.c (nI 2)))) (.ret (.bin .add (.bin .mod (.bin .mul (.c (nI 2)) (.v 1)) (.call "stands" (.cons (.v 0) .nil))) (.v 2)))) .pass) (.ret (.ix (.ix (.v 0) (.c (nI 1))) (.v 1)))))
def b_faces_many : S := (.ret (.ix (.v 0) (.neg (.c (nI 1)))))
def b_face : S := (.seq (.iff (.cmp .eq (.ix (.v 0) (.c (nI 0))) (.g "SUMS" (.str "sums"))) (.ret (.bin .div (.bin .mul (.v 1) (.ix (.v 0) (.c (nI 4)))) (.ix (.v 0) (.c (nI 1))))) .pass) (.seq (.iff (.cmp .eq (.ix (.v 0) (.c (nI 0))) (.g "BITS" (.str "bits"))) (.ret (.bin .mod (.v 1) (.ix (.v 0) (.c (nI 3))))) .pass) (.ret (.ix (.ix (.v 0) (.c (nI 2))) (.v 1)))))
def b_as_table : S := (.seq (.set 1 (.bi .tuple (.cons (.comp (.nm 2) (.r1 (.call "stands" (.cons (.v 0) .nil))) .no (.call "step" (.cons (.v 0) (.cons (.v 2) .nil))) [2]) .nil))) (.seq (.set 3 (.bi .tuple (.cons (.comp (.nm 2) (.r1 (.call "stands" (.cons (.v 0) .nil))) .no (.call "face" (.cons (.v 0) (.cons (.v 2) .nil))) [2]) .nil))) (.ret (.tup (.cons (.g "TABLE" (.str "table")) (.cons (.v 1) (.cons (.v 3) (.cons (.call "faces_many" (.cons (.v 0) .nil)) .nil))))))))
def b_drawn : S := (.seq (.set 3 (.tup .nil)) (.seq (.for_ (.nm 4) (.r1 (.v 2)) (.seq (.set 3 (.bin .add (.v 3) (.tup (.cons (.call "face" (.cons (.v 0) (.cons (.v 1) .nil))) .nil)))) (.set 1 (.call "step" (.cons (.v 0) (.cons (.v 1) .nil)))))) (.ret (.v 3))))
def b_behind : S := (.seq (.set 3 (.comp (.nm 4) (.r1 (.call "stands" (.cons (.v 0) .nil))) .no (.call "step" (.cons (.v 0) (.cons (.v 4) .nil))) [4])) (.seq (.whl (.cmp .gt (.v 2) (.c (nI 0))) (.seq (.iff (.cmp .eq (.bin .mod (.v 2) (.c (nI 2))) (.c (nI 1))) (.set 1 (.ix (.v 3) (.v 1))) .pass) (.seq (.set 3 (.comp (.nm 5) (.e (.v 3)) .no (.ix (.v 3) (.v 5)) [5])) (.set 2 (.bin .div (.v 2) (.c (nI 2))))))) (.ret (.v 1))))
section
variable {DS : List Def} [Has DS "power" 2 4 b_power] [Has DS "stands" 1 1 b_stands]
theorem run_stands (n : Nat) {M : Mk} (hM : M.ok) : runF DS (n + 2) "stands" [M.d] = .ok (nI M.size) := by
  rw [run_has (n + 1) _ rfl]
  cases M with
  | sums m a b f => simp (disch := first | omega | with_reducible assumption | (simp only [List.length_cons, List.length_nil, List.length_append, List.length_map, List.length_range, Am.row_len]; omega)) only [b_stands, v_c, v_g, v_v, v_bin, v_neg, v_cmp, v_chain, v_and, v_or, v_not, v_ix, v_sl, v_rev, v_tup, v_lst, v_call, v_bi, v_rng, v_srtSet, v_meth, v_isi, v_dnew, v_srtKey, vs_nil, vs_cons, vr_nil, vr_cons, vo_no, vo_so, vc_e, vc_own, vc_1, vc_2, vc_en, vc_zip, v_comp1, v_comp1c, v_comp2, x_pass, x_seq, x_frz, x_set, x_setO, x_unp, x_par, x_par3, x_iff, x_ret, x_retN, x_rai, x_exp, x_cont, x_for, x_whl, x_app, x_ext, x_pop0, x_setIx, own_s, kApp_L, kApp_I, kExt_L, kExt_I, kSet_L, kSet_I, kSet_T, kSet_K, R.bind_ok, R.fl_ok, R.nox_ok, then_kS, fl_kFor, then_rt, then_exc, toR_rt, toR_exc, asB_b, rd_val, rd_own, onx_s, List.getElem?_cons_zero, List.getElem?_cons_succ, List.set_cons_zero, List.set_cons_succ, List.map_cons, List.map_nil, List.cons_append, List.nil_append, List.replicate_succ, List.replicate_zero, Nat.reduceSub, Nat.sub_zero, cond_true, cond_false, cond_b1, cond_b2, Bool.not_true, Bool.not_false, List.length_cons, List.length_nil, Nat.zero_add, Nat.reduceAdd, b_nm, b_tup, bs_nil, bs_cons, b_some, frzE, own_I, own_L, own_T, own_K, n_add, n_mulL, n_mulR, n_sub, n_mod, n_div, n_lt, n_le, n_gt, n_ge, n_eq, n_ne, n_neg, ↓cmpr_map, ↓cmpA_map, ↓cmpA_range, cmpA_ok, cmpA_okc, cmpN_ok, cmpN_okc, cmpA_none, cmpN_none, gd_t, gd_k, r1_n, rng_t, rng_l, psk_ok, ix_t0, ix_t1, ix_t2, ix_t3, ix_t4, ix_m4, ix_m5, ix_dI, ix_lI, len_t, len_l, len_dI, len_lI, src_d, src_l, src_L, src_T, srcO_L, srcO_I, tup_l, tup_lI, tup_t, tup_dI, lst_dI, lst_lI, lst_t, fold_lI, fold_dI, sum_lI, cat_dI, tup1_n, tup0_n, lst0_n, papp_I, papp_L, fold_snoc, fold_set, pext_L, psetI_I, psetL_I, fold_l, fold_t, fold_l1, pss_l, pss_d, in_lI, in_dI, nin_lI, nin_dI, meOk_i, meOk_L, me_idx, sl_from, sl_to, plo_n, plo_j, isi_ni, isi_nb, isi_nt, isi_dt, isi_tt, isi_ss, all_b, any_b, eq_lI, eq_dI, ne_lI, ne_dI, int_b, min_n, max_n, mul_lI, cat_lI, sorted_I, eq_bb, ne_bb, map_dsnoc, sub_01, max_0j, ne_LD, ne_DD, Mk.d, Mk.size, cs_00, cs_01, cs_02, cs_10, cs_11, cs_12, cs_20, cs_21, cs_22]
  | bits k t f =>
    have := hM.2.1
    simp (disch := first | omega | with_reducible assumption | (simp only [List.length_cons, List.length_nil, List.length_append, List.length_map, List.length_range, Am.row_len]; omega)) only [b_stands, v_c, v_g, v_v, v_bin, v_neg, v_cmp, v_chain, v_and, v_or, v_not, v_ix, v_sl, v_rev, v_tup, v_lst, v_call, v_bi, v_rng, v_srtSet, v_meth, v_isi, v_dnew, v_srtKey, vs_nil, vs_cons, vr_nil, vr_cons, vo_no, vo_so, vc_e, vc_own, vc_1, vc_2, vc_en, vc_zip, v_comp1, v_comp1c, v_comp2, x_pass, x_seq, x_frz, x_set, x_setO, x_unp, x_par, x_par3, x_iff, x_ret, x_retN, x_rai, x_exp, x_cont, x_for, x_whl, x_app, x_ext, x_pop0, x_setIx, own_s, kApp_L, kApp_I, kExt_L, kExt_I, kSet_L, kSet_I, kSet_T, kSet_K, R.bind_ok, R.fl_ok, R.nox_ok, then_kS, fl_kFor, then_rt, then_exc, toR_rt, toR_exc, asB_b, rd_val, rd_own, onx_s, List.getElem?_cons_zero, List.getElem?_cons_succ, List.set_cons_zero, List.set_cons_succ, List.map_cons, List.map_nil, List.cons_append, List.nil_append, List.replicate_succ, List.replicate_zero, Nat.reduceSub, Nat.sub_zero, cond_true, cond_false, cond_b1, cond_b2, Bool.not_true, Bool.not_false, List.length_cons, List.length_nil, Nat.zero_add, Nat.reduceAdd, b_nm, b_tup, bs_nil, bs_cons, b_some, frzE, own_I, own_L, own_T, own_K, n_add, n_mulL, n_mulR, n_sub, n_mod, n_div, n_lt, n_le, n_gt, n_ge, n_eq, n_ne, n_neg, ↓cmpr_map, ↓cmpA_map, ↓cmpA_range, cmpA_ok, cmpA_okc, cmpN_ok, cmpN_okc, cmpA_none, cmpN_none, gd_t, gd_k, r1_n, rng_t, rng_l, psk_ok, ix_t0, ix_t1, ix_t2, ix_t3, ix_t4, ix_m4, ix_m5, ix_dI, ix_lI, len_t, len_l, len_dI, len_lI, src_d, src_l, src_L, src_T, srcO_L, srcO_I, tup_l, tup_lI, tup_t, tup_dI, lst_dI, lst_lI, lst_t, fold_lI, fold_dI, sum_lI, cat_dI, tup1_n, tup0_n, lst0_n, papp_I, papp_L, fold_snoc, fold_set, pext_L, psetI_I, psetL_I, fold_l, fold_t, fold_l1, pss_l, pss_d, in_lI, in_dI, nin_lI, nin_dI, meOk_i, meOk_L, me_idx, sl_from, sl_to, plo_n, plo_j, isi_ni, isi_nb, isi_nt, isi_dt, isi_tt, isi_ss, all_b, any_b, eq_lI, eq_dI, ne_lI, ne_dI, int_b, min_n, max_n, mul_lI, cat_lI, sorted_I, eq_bb, ne_bb, map_dsnoc, sub_01, max_0j, ne_LD, ne_DD, Mk.d, Mk.size, cs_00, cs_01, cs_02, cs_10, cs_11, cs_12, cs_20, cs_21, cs_22, run_power]
  | table x y f => simp (disch := first | omega | with_reducible assumption | (simp only [List.length_cons, List.length_nil, List.length_append, List.length_map, List.length_range, Am.row_len]; omega)) only [b_stands, v_c, v_g, v_v, v_bin, v_neg, v_cmp, v_chain, v_and, v_or, v_not, v_ix, v_sl, v_rev, v_tup, v_lst, v_call, v_bi, v_rng, v_srtSet, v_meth, v_isi, v_dnew, v_srtKey, vs_nil, vs_cons, vr_nil, vr_cons, vo_no, vo_so, vc_e, vc_own, vc_1, vc_2, vc_en, vc_zip, v_comp1, v_comp1c, v_comp2, x_pass, x_seq, x_frz, x_set, x_setO, x_unp, x_par, x_par3, x_iff, x_ret, x_retN, x_rai, x_exp, x_cont, x_for, x_whl, x_app, x_ext, x_pop0, x_setIx, own_s, kApp_L, kApp_I, kExt_L, kExt_I, kSet_L, kSet_I, kSet_T, kSet_K, R.bind_ok, R.fl_ok, R.nox_ok, then_kS, fl_kFor, then_rt, then_exc, toR_rt, toR_exc, asB_b, rd_val, rd_own, onx_s, List.getElem?_cons_zero, List.getElem?_cons_succ, List.set_cons_zero, List.set_cons_succ, List.map_cons, List.map_nil, List.cons_append, List.nil_append, List.replicate_succ, List.replicate_zero, Nat.reduceSub, Nat.sub_zero, cond_true, cond_false, cond_b1, cond_b2, Bool.not_true, Bool.not_false, List.length_cons, List.length_nil, Nat.zero_add, Nat.reduceAdd, b_nm, b_tup, bs_nil, bs_cons, b_some, frzE, own_I, own_L, own_T, own_K, n_add, n_mulL, n_mulR, n_sub, n_mod, n_div, n_lt, n_le, n_gt, n_ge, n_eq, n_ne, n_neg, ↓cmpr_map, ↓cmpA_map, ↓cmpA_range, cmpA_ok, cmpA_okc, cmpN_ok, cmpN_okc, cmpA_none, cmpN_none, gd_t, gd_k, r1_n, rng_t, rng_l, psk_ok, ix_t0, ix_t1, ix_t2, ix_t3, ix_t4, ix_m4, ix_m5, ix_dI, ix_lI, len_t, len_l, len_dI, len_lI, src_d, src_l, src_L, src_T, srcO_L, srcO_I, tup_l, tup_lI, tup_t, tup_dI, lst_dI, lst_lI, lst_t, fold_lI, fold_dI, sum_lI, cat_dI, tup1_n, tup0_n, lst0_n, papp_I, papp_L, fold_snoc, fold_set, pext_L, psetI_I, psetL_I, fold_l, fold_t, fold_l1, pss_l, pss_d, in_lI, in_dI, nin_lI, nin_dI, meOk_i, meOk_L, me_idx, sl_from, sl_to, plo_n, plo_j, isi_ni, isi_nb, isi_nt, isi_dt, isi_tt, isi_ss, all_b, any_b, eq_lI, eq_dI, ne_lI, ne_dI, int_b, min_n, max_n, mul_lI, cat_lI, sorted_I, eq_bb, ne_bb, map_dsnoc, sub_01, max_0j, ne_LD, ne_DD, Mk.d, Mk.size, cs_00, cs_01, cs_02, cs_10, cs_11, cs_12, cs_20, cs_21, cs_22]
variable [Has DS "step" 2 4 b_step]
theorem run_step (n : Nat) {M : Mk} (hM : M.ok) {s : Nat} (hs : s < M.size) : runF DS (n + 3) "step" [M.d, nI s] = .ok (nI (M.step s)) := by
  have h64 := Mk.size_le hM
  rw [run_has (n + 2) _ rfl]
  cases M with
  | sums m a b f =>
    have h1 := hM.1
    have h3 := hM.2.2.1
    simp (disch := first | omega | with_reducible assumption | (simp only [List.length_cons, List.length_nil, List.length_append, List.length_map, List.length_range, Am.row_len]; omega)) only [b_step, v_c, v_g, v_v, v_bin, v_neg, v_cmp, v_chain, v_and, v_or, v_not, v_ix, v_sl, v_rev, v_tup, v_lst, v_call, v_bi, v_rng, v_srtSet, v_meth, v_isi, v_dnew, v_srtKey, vs_nil, vs_cons, vr_nil, vr_cons, vo_no, vo_so, vc_e, vc_own, vc_1, vc_2, vc_en, vc_zip, v_comp1, v_comp1c, v_comp2, x_pass, x_seq, x_frz, x_set, x_setO, x_unp, x_par, x_par3, x_iff, x_ret, x_retN, x_rai, x_exp, x_cont, x_for, x_whl, x_app, x_ext, x_pop0, x_setIx, own_s, kApp_L, kApp_I, kExt_L, kExt_I, kSet_L, kSet_I, kSet_T, kSet_K, R.bind_ok, R.fl_ok, R.nox_ok, then_kS, fl_kFor, then_rt, then_exc, toR_rt, toR_exc, asB_b, rd_val, rd_own, onx_s, List.getElem?_cons_zero, List.getElem?_cons_succ, List.set_cons_zero, List.set_cons_succ, List.map_cons, List.map_nil, List.cons_append, List.nil_append, List.replicate_succ, List.replicate_zero, Nat.reduceSub, Nat.sub_zero, cond_true, cond_false, cond_b1, cond_b2, Bool.not_true, Bool.not_false, List.length_cons, List.length_nil, Nat.zero_add, Nat.reduceAdd, b_nm, b_tup, bs_nil, bs_cons, b_some, frzE, own_I, own_L, own_T, own_K, n_add, n_mulL, n_mulR, n_sub, n_mod, n_div, n_lt, n_le, n_gt, n_ge, n_eq, n_ne, n_neg, ↓cmpr_map, ↓cmpA_map, ↓cmpA_range, cmpA_ok, cmpA_okc, cmpN_ok, cmpN_okc, cmpA_none, cmpN_none, gd_t, gd_k, r1_n, rng_t, rng_l, psk_ok, ix_t0, ix_t1, ix_t2, ix_t3, ix_t4, ix_m4, ix_m5, ix_dI, ix_lI, len_t, len_l, len_dI, len_lI, src_d, src_l, src_L, src_T, srcO_L, srcO_I, tup_l, tup_lI, tup_t, tup_dI, lst_dI, lst_lI, lst_t, fold_lI, fold_dI, sum_lI, cat_dI, tup1_n, tup0_n, lst0_n, papp_I, papp_L, fold_snoc, fold_set, pext_L, psetI_I, psetL_I, fold_l, fold_t, fold_l1, pss_l, pss_d, in_lI, in_dI, nin_lI, nin_dI, meOk_i, meOk_L, me_idx, sl_from, sl_to, plo_n, plo_j, isi_ni, isi_nb, isi_nt, isi_dt, isi_tt, isi_ss, all_b, any_b, eq_lI, eq_dI, ne_lI, ne_dI, int_b, min_n, max_n, mul_lI, cat_lI, sorted_I, eq_bb, ne_bb, map_dsnoc, sub_01, max_0j, ne_LD, ne_DD, Mk.d, cs_00, cs_01, cs_02, cs_10, cs_11, cs_12, cs_20, cs_21, cs_22, Mk.step]
  | bits k t f =>
    have hk := hM.2.1
    have ht := hM.2.2.2.2.1
    have hst := run_stands (DS := DS) n hM
    simp only [Mk.d] at hst
    have hlt : t.length < 1000000 := by
      have := inc_len t 0 hM.2.2.2.1 fun i hi => ⟨Nat.zero_le _, ht i hi⟩
      omega
    have hp : ∀ a ∈ t, runF DS (n + 2) "power" [nI 2, nI a] = .ok (nI (2 ^ a)) := fun a ha => run_power (n + 1) 2 a (by decide) (by have := ht a ha; omega)
    have hd : ∀ a ∈ t, pbin .div (nI s) (nI (2 ^ a)) = .ok (nI (s / 2 ^ a)) := fun a ha => n_div _ _ (Nat.pow_pos (by decide)) (by
      have hpw : (2 : Nat) ^ a ≤ 2 ^ 6 := Nat.pow_le_pow_right (by decide) (by have := ht a ha; omega)
      omega)
    have hz : 0 < 2 ^ k := Nat.pow_pos (by decide)
    simp +contextual (disch := first | omega | with_reducible assumption | (simp only [List.length_cons, List.length_nil, List.length_append, List.length_map, List.length_range, Am.row_len]; omega)) only [b_step, v_c, v_g, v_v, v_bin, v_neg, v_cmp, v_chain, v_and, v_or, v_not, v_ix, v_sl, v_rev, v_tup, v_lst, v_call, v_bi, v_rng, v_srtSet, v_meth, v_isi, v_dnew, v_srtKey, vs_nil, vs_cons, vr_nil, vr_cons, vo_no, vo_so, vc_e, vc_own, vc_1, vc_2, vc_en, vc_zip, v_comp1, v_comp1c, v_comp2, x_pass, x_seq, x_frz, x_set, x_setO, x_unp, x_par, x_par3, x_iff, x_ret, x_retN, x_rai, x_exp, x_cont, x_for, x_whl, x_app, x_ext, x_pop0, x_setIx, own_s, kApp_L, kApp_I, kExt_L, kExt_I, kSet_L, kSet_I, kSet_T, kSet_K, R.bind_ok, R.fl_ok, R.nox_ok, then_kS, fl_kFor, then_rt, then_exc, toR_rt, toR_exc, asB_b, rd_val, rd_own, onx_s, List.getElem?_cons_zero, List.getElem?_cons_succ, List.set_cons_zero, List.set_cons_succ, List.map_cons, List.map_nil, List.cons_append, List.nil_append, List.replicate_succ, List.replicate_zero, Nat.reduceSub, Nat.sub_zero, cond_true, cond_false, cond_b1, cond_b2, Bool.not_true, Bool.not_false, List.length_cons, List.length_nil, Nat.zero_add, Nat.reduceAdd, b_nm, b_tup, bs_nil, bs_cons, b_some, frzE, own_I, own_L, own_T, own_K, n_add, n_mulL, n_mulR, n_sub, n_mod, n_div, n_lt, n_le, n_gt, n_ge, n_eq, n_ne, n_neg, ↓cmpr_map, ↓cmpA_map, ↓cmpA_range, cmpA_ok, cmpA_okc, cmpN_ok, cmpN_okc, cmpA_none, cmpN_none, gd_t, gd_k, r1_n, rng_t, rng_l, psk_ok, ix_t0, ix_t1, ix_t2, ix_t3, ix_t4, ix_m4, ix_m5, ix_dI, ix_lI, len_t, len_l, len_dI, len_lI, src_d, src_l, src_L, src_T, srcO_L, srcO_I, tup_l, tup_lI, tup_t, tup_dI, lst_dI, lst_lI, lst_t, fold_lI, fold_dI, sum_lI, cat_dI, tup1_n, tup0_n, lst0_n, papp_I, papp_L, fold_snoc, fold_set, pext_L, psetI_I, psetL_I, fold_l, fold_t, fold_l1, pss_l, pss_d, in_lI, in_dI, nin_lI, nin_dI, meOk_i, meOk_L, me_idx, sl_from, sl_to, plo_n, plo_j, isi_ni, isi_nb, isi_nt, isi_dt, isi_tt, isi_ss, all_b, any_b, eq_lI, eq_dI, ne_lI, ne_dI, int_b, min_n, max_n, mul_lI, cat_lI, sorted_I, eq_bb, ne_bb, map_dsnoc, sub_01, max_0j, ne_LD, ne_DD, Mk.d, cs_00, cs_01, cs_02, cs_10, cs_11, cs_12, cs_20, cs_21, cs_22, hp, hd, hst, Mk.size]
    rfl
  | table x y f =>
    have hs' : s < x.length := hs
    simp (disch := first | omega | with_reducible assumption | (simp only [List.length_cons, List.length_nil, List.length_append, List.length_map, List.length_range, Am.row_len]; omega)) only [b_step, v_c, v_g, v_v, v_bin, v_neg, v_cmp, v_chain, v_and, v_or, v_not, v_ix, v_sl, v_rev, v_tup, v_lst, v_call, v_bi, v_rng, v_srtSet, v_meth, v_isi, v_dnew, v_srtKey, vs_nil, vs_cons, vr_nil, vr_cons, vo_no, vo_so, vc_e, vc_own, vc_1, vc_2, vc_en, vc_zip, v_comp1, v_comp1c, v_comp2, x_pass, x_seq, x_frz, x_set, x_setO, x_unp, x_par, x_par3, x_iff, x_ret, x_retN, x_rai, x_exp, x_cont, x_for, x_whl, x_app, x_ext, x_pop0, x_setIx, own_s, kApp_L, kApp_I, kExt_L, kExt_I, kSet_L, kSet_I, kSet_T, kSet_K, R.bind_ok, R.fl_ok, R.nox_ok, then_kS, fl_kFor, then_rt, then_exc, toR_rt, toR_exc, asB_b, rd_val, rd_own, onx_s, List.getElem?_cons_zero, List.getElem?_cons_succ, List.set_cons_zero, List.set_cons_succ, List.map_cons, List.map_nil, List.cons_append, List.nil_append, List.replicate_succ, List.replicate_zero, Nat.reduceSub, Nat.sub_zero, cond_true, cond_false, cond_b1, cond_b2, Bool.not_true, Bool.not_false, List.length_cons, List.length_nil, Nat.zero_add, Nat.reduceAdd, b_nm, b_tup, bs_nil, bs_cons, b_some, frzE, own_I, own_L, own_T, own_K, n_add, n_mulL, n_mulR, n_sub, n_mod, n_div, n_lt, n_le, n_gt, n_ge, n_eq, n_ne, n_neg, ↓cmpr_map, ↓cmpA_map, ↓cmpA_range, cmpA_ok, cmpA_okc, cmpN_ok, cmpN_okc, cmpA_none, cmpN_none, gd_t, gd_k, r1_n, rng_t, rng_l, psk_ok, ix_t0, ix_t1, ix_t2, ix_t3, ix_t4, ix_m4, ix_m5, ix_dI, ix_lI, len_t, len_l, len_dI, len_lI, src_d, src_l, src_L, src_T, srcO_L, srcO_I, tup_l, tup_lI, tup_t, tup_dI, lst_dI, lst_lI, lst_t, fold_lI, fold_dI, sum_lI, cat_dI, tup1_n, tup0_n, lst0_n, papp_I, papp_L, fold_snoc, fold_set, pext_L, psetI_I, psetL_I, fold_l, fold_t, fold_l1, pss_l, pss_d, in_lI, in_dI, nin_lI, nin_dI, meOk_i, meOk_L, me_idx, sl_from, sl_to, plo_n, plo_j, isi_ni, isi_nb, isi_nt, isi_dt, isi_tt, isi_ss, all_b, any_b, eq_lI, eq_dI, ne_lI, ne_dI, int_b, min_n, max_n, mul_lI, cat_lI, sorted_I, eq_bb, ne_bb, map_dsnoc, sub_01, max_0j, ne_LD, ne_DD, Mk.d, cs_00, cs_01, cs_02, cs_10, cs_11, cs_12, cs_20, cs_21, cs_22, Mk.step]
end
section
variable {DS : List Def} [Has DS "faces_many" 1 1 b_faces_many]
theorem run_faces (n : Nat) (M : Mk) : runF DS (n + 1) "faces_many" [M.d] = .ok (nI M.faces) := by
  rw [run_has n _ rfl]
  cases M with
  | sums m a b f => simp (disch := first | omega | with_reducible assumption | (simp only [List.length_cons, List.length_nil, List.length_append, List.length_map, List.length_range, Am.row_len]; omega)) only [b_faces_many, v_c, v_g, v_v, v_bin, v_neg, v_cmp, v_chain, v_and, v_or, v_not, v_ix, v_sl, v_rev, v_tup, v_lst, v_call, v_bi, v_rng, v_srtSet, v_meth, v_isi, v_dnew, v_srtKey, vs_nil, vs_cons, vr_nil, vr_cons, vo_no, vo_so, vc_e, vc_own, vc_1, vc_2, vc_en, vc_zip, v_comp1, v_comp1c, v_comp2, x_pass, x_seq, x_frz, x_set, x_setO, x_unp, x_par, x_par3, x_iff, x_ret, x_retN, x_rai, x_exp, x_cont, x_for, x_whl, x_app, x_ext, x_pop0, x_setIx, own_s, kApp_L, kApp_I, kExt_L, kExt_I, kSet_L, kSet_I, kSet_T, kSet_K, R.bind_ok, R.fl_ok, R.nox_ok, then_kS, fl_kFor, then_rt, then_exc, toR_rt, toR_exc, asB_b, rd_val, rd_own, onx_s, List.getElem?_cons_zero, List.getElem?_cons_succ, List.set_cons_zero, List.set_cons_succ, List.map_cons, List.map_nil, List.cons_append, List.nil_append, List.replicate_succ, List.replicate_zero, Nat.reduceSub, Nat.sub_zero, cond_true, cond_false, cond_b1, cond_b2, Bool.not_true, Bool.not_false, List.length_cons, List.length_nil, Nat.zero_add, Nat.reduceAdd, b_nm, b_tup, bs_nil, bs_cons, b_some, frzE, own_I, own_L, own_T, own_K, n_add, n_mulL, n_mulR, n_sub, n_mod, n_div, n_lt, n_le, n_gt, n_ge, n_eq, n_ne, n_neg, ↓cmpr_map, ↓cmpA_map, ↓cmpA_range, cmpA_ok, cmpA_okc, cmpN_ok, cmpN_okc, cmpA_none, cmpN_none, gd_t, gd_k, r1_n, rng_t, rng_l, psk_ok, ix_t0, ix_t1, ix_t2, ix_t3, ix_t4, ix_m4, ix_m5, ix_dI, ix_lI, len_t, len_l, len_dI, len_lI, src_d, src_l, src_L, src_T, srcO_L, srcO_I, tup_l, tup_lI, tup_t, tup_dI, lst_dI, lst_lI, lst_t, fold_lI, fold_dI, sum_lI, cat_dI, tup1_n, tup0_n, lst0_n, papp_I, papp_L, fold_snoc, fold_set, pext_L, psetI_I, psetL_I, fold_l, fold_t, fold_l1, pss_l, pss_d, in_lI, in_dI, nin_lI, nin_dI, meOk_i, meOk_L, me_idx, sl_from, sl_to, plo_n, plo_j, isi_ni, isi_nb, isi_nt, isi_dt, isi_tt, isi_ss, all_b, any_b, eq_lI, eq_dI, ne_lI, ne_dI, int_b, min_n, max_n, mul_lI, cat_lI, sorted_I, eq_bb, ne_bb, map_dsnoc, sub_01, max_0j, ne_LD, ne_DD, Mk.d, Mk.faces]
  | bits k t f => simp (disch := first | omega | with_reducible assumption | (simp only [List.length_cons, List.length_nil, List.length_append, List.length_map, List.length_range, Am.row_len]; omega)) only [b_faces_many, v_c, v_g, v_v, v_bin, v_neg, v_cmp, v_chain, v_and, v_or, v_not, v_ix, v_sl, v_rev, v_tup, v_lst, v_call, v_bi, v_rng, v_srtSet, v_meth, v_isi, v_dnew, v_srtKey, vs_nil, vs_cons, vr_nil, vr_cons, vo_no, vo_so, vc_e, vc_own, vc_1, vc_2, vc_en, vc_zip, v_comp1, v_comp1c, v_comp2, x_pass, x_seq, x_frz, x_set, x_setO, x_unp, x_par, x_par3, x_iff, x_ret, x_retN, x_rai, x_exp, x_cont, x_for, x_whl, x_app, x_ext, x_pop0, x_setIx, own_s, kApp_L, kApp_I, kExt_L, kExt_I, kSet_L, kSet_I, kSet_T, kSet_K, R.bind_ok, R.fl_ok, R.nox_ok, then_kS, fl_kFor, then_rt, then_exc, toR_rt, toR_exc, asB_b, rd_val, rd_own, onx_s, List.getElem?_cons_zero, List.getElem?_cons_succ, List.set_cons_zero, List.set_cons_succ, List.map_cons, List.map_nil, List.cons_append, List.nil_append, List.replicate_succ, List.replicate_zero, Nat.reduceSub, Nat.sub_zero, cond_true, cond_false, cond_b1, cond_b2, Bool.not_true, Bool.not_false, List.length_cons, List.length_nil, Nat.zero_add, Nat.reduceAdd, b_nm, b_tup, bs_nil, bs_cons, b_some, frzE, own_I, own_L, own_T, own_K, n_add, n_mulL, n_mulR, n_sub, n_mod, n_div, n_lt, n_le, n_gt, n_ge, n_eq, n_ne, n_neg, ↓cmpr_map, ↓cmpA_map, ↓cmpA_range, cmpA_ok, cmpA_okc, cmpN_ok, cmpN_okc, cmpA_none, cmpN_none, gd_t, gd_k, r1_n, rng_t, rng_l, psk_ok, ix_t0, ix_t1, ix_t2, ix_t3, ix_t4, ix_m4, ix_m5, ix_dI, ix_lI, len_t, len_l, len_dI, len_lI, src_d, src_l, src_L, src_T, srcO_L, srcO_I, tup_l, tup_lI, tup_t, tup_dI, lst_dI, lst_lI, lst_t, fold_lI, fold_dI, sum_lI, cat_dI, tup1_n, tup0_n, lst0_n, papp_I, papp_L, fold_snoc, fold_set, pext_L, psetI_I, psetL_I, fold_l, fold_t, fold_l1, pss_l, pss_d, in_lI, in_dI, nin_lI, nin_dI, meOk_i, meOk_L, me_idx, sl_from, sl_to, plo_n, plo_j, isi_ni, isi_nb, isi_nt, isi_dt, isi_tt, isi_ss, all_b, any_b, eq_lI, eq_dI, ne_lI, ne_dI, int_b, min_n, max_n, mul_lI, cat_lI, sorted_I, eq_bb, ne_bb, map_dsnoc, sub_01, max_0j, ne_LD, ne_DD, Mk.d, Mk.faces]
  | table x y f => simp (disch := first | omega | with_reducible assumption | (simp only [List.length_cons, List.length_nil, List.length_append, List.length_map, List.length_range, Am.row_len]; omega)) only [b_faces_many, v_c, v_g, v_v, v_bin, v_neg, v_cmp, v_chain, v_and, v_or, v_not, v_ix, v_sl, v_rev, v_tup, v_lst, v_call, v_bi, v_rng, v_srtSet, v_meth, v_isi, v_dnew, v_srtKey, vs_nil, vs_cons, vr_nil, vr_cons, vo_no, vo_so, vc_e, vc_own, vc_1, vc_2, vc_en, vc_zip, v_comp1, v_comp1c, v_comp2, x_pass, x_seq, x_frz, x_set, x_setO, x_unp, x_par, x_par3, x_iff, x_ret, x_retN, x_rai, x_exp, x_cont, x_for, x_whl, x_app, x_ext, x_pop0, x_setIx, own_s, kApp_L, kApp_I, kExt_L, kExt_I, kSet_L, kSet_I, kSet_T, kSet_K, R.bind_ok, R.fl_ok, R.nox_ok, then_kS, fl_kFor, then_rt, then_exc, toR_rt, toR_exc, asB_b, rd_val, rd_own, onx_s, List.getElem?_cons_zero, List.getElem?_cons_succ, List.set_cons_zero, List.set_cons_succ, List.map_cons, List.map_nil, List.cons_append, List.nil_append, List.replicate_succ, List.replicate_zero, Nat.reduceSub, Nat.sub_zero, cond_true, cond_false, cond_b1, cond_b2, Bool.not_true, Bool.not_false, List.length_cons, List.length_nil, Nat.zero_add, Nat.reduceAdd, b_nm, b_tup, bs_nil, bs_cons, b_some, frzE, own_I, own_L, own_T, own_K, n_add, n_mulL, n_mulR, n_sub, n_mod, n_div, n_lt, n_le, n_gt, n_ge, n_eq, n_ne, n_neg, ↓cmpr_map, ↓cmpA_map, ↓cmpA_range, cmpA_ok, cmpA_okc, cmpN_ok, cmpN_okc, cmpA_none, cmpN_none, gd_t, gd_k, r1_n, rng_t, rng_l, psk_ok, ix_t0, ix_t1, ix_t2, ix_t3, ix_t4, ix_m4, ix_m5, ix_dI, ix_lI, len_t, len_l, len_dI, len_lI, src_d, src_l, src_L, src_T, srcO_L, srcO_I, tup_l, tup_lI, tup_t, tup_dI, lst_dI, lst_lI, lst_t, fold_lI, fold_dI, sum_lI, cat_dI, tup1_n, tup0_n, lst0_n, papp_I, papp_L, fold_snoc, fold_set, pext_L, psetI_I, psetL_I, fold_l, fold_t, fold_l1, pss_l, pss_d, in_lI, in_dI, nin_lI, nin_dI, meOk_i, meOk_L, me_idx, sl_from, sl_to, plo_n, plo_j, isi_ni, isi_nb, isi_nt, isi_dt, isi_tt, isi_ss, all_b, any_b, eq_lI, eq_dI, ne_lI, ne_dI, int_b, min_n, max_n, mul_lI, cat_lI, sorted_I, eq_bb, ne_bb, map_dsnoc, sub_01, max_0j, ne_LD, ne_DD, Mk.d, Mk.faces]
end
section
variable {DS : List Def} [Has DS "face" 2 2 b_face]
theorem run_face (n : Nat) {M : Mk} (hM : M.ok) {s : Nat} (hs : s < M.size) : runF DS (n + 1) "face" [M.d, nI s] = .ok (nI (M.face s)) := by
  have h64 := Mk.size_le hM
  rw [run_has n _ rfl]
  cases M with
  | sums m a b f =>
    have h1 := hM.1
    have h3 := hM.2.1
    have hs' : s < m := hs
    simp (disch := first | omega | with_reducible assumption | (simp only [List.length_cons, List.length_nil, List.length_append, List.length_map, List.length_range, Am.row_len]; omega)) only [b_face, v_c, v_g, v_v, v_bin, v_neg, v_cmp, v_chain, v_and, v_or, v_not, v_ix, v_sl, v_rev, v_tup, v_lst, v_call, v_bi, v_rng, v_srtSet, v_meth, v_isi, v_dnew, v_srtKey, vs_nil, vs_cons, vr_nil, vr_cons, vo_no, vo_so, vc_e, vc_own, vc_1, vc_2, vc_en, vc_zip, v_comp1, v_comp1c, v_comp2, x_pass, x_seq, x_frz, x_set, x_setO, x_unp, x_par, x_par3, x_iff, x_ret, x_retN, x_rai, x_exp, x_cont, x_for, x_whl, x_app, x_ext, x_pop0, x_setIx, own_s, kApp_L, kApp_I, kExt_L, kExt_I, kSet_L, kSet_I, kSet_T, kSet_K, R.bind_ok, R.fl_ok, R.nox_ok, then_kS, fl_kFor, then_rt, then_exc, toR_rt, toR_exc, asB_b, rd_val, rd_own, onx_s, List.getElem?_cons_zero, List.getElem?_cons_succ, List.set_cons_zero, List.set_cons_succ, List.map_cons, List.map_nil, List.cons_append, List.nil_append, List.replicate_succ, List.replicate_zero, Nat.reduceSub, Nat.sub_zero, cond_true, cond_false, cond_b1, cond_b2, Bool.not_true, Bool.not_false, List.length_cons, List.length_nil, Nat.zero_add, Nat.reduceAdd, b_nm, b_tup, bs_nil, bs_cons, b_some, frzE, own_I, own_L, own_T, own_K, n_add, n_mulL, n_mulR, n_sub, n_mod, n_div, n_lt, n_le, n_gt, n_ge, n_eq, n_ne, n_neg, ↓cmpr_map, ↓cmpA_map, ↓cmpA_range, cmpA_ok, cmpA_okc, cmpN_ok, cmpN_okc, cmpA_none, cmpN_none, gd_t, gd_k, r1_n, rng_t, rng_l, psk_ok, ix_t0, ix_t1, ix_t2, ix_t3, ix_t4, ix_m4, ix_m5, ix_dI, ix_lI, len_t, len_l, len_dI, len_lI, src_d, src_l, src_L, src_T, srcO_L, srcO_I, tup_l, tup_lI, tup_t, tup_dI, lst_dI, lst_lI, lst_t, fold_lI, fold_dI, sum_lI, cat_dI, tup1_n, tup0_n, lst0_n, papp_I, papp_L, fold_snoc, fold_set, pext_L, psetI_I, psetL_I, fold_l, fold_t, fold_l1, pss_l, pss_d, in_lI, in_dI, nin_lI, nin_dI, meOk_i, meOk_L, me_idx, sl_from, sl_to, plo_n, plo_j, isi_ni, isi_nb, isi_nt, isi_dt, isi_tt, isi_ss, all_b, any_b, eq_lI, eq_dI, ne_lI, ne_dI, int_b, min_n, max_n, mul_lI, cat_lI, sorted_I, eq_bb, ne_bb, map_dsnoc, sub_01, max_0j, ne_LD, ne_DD, Mk.d, cs_00, cs_01, cs_02, cs_10, cs_11, cs_12, cs_20, cs_21, cs_22, Mk.face]
  | bits k t f =>
    have := hM.2.2.2.2.2.1
    simp (disch := first | omega | with_reducible assumption | (simp only [List.length_cons, List.length_nil, List.length_append, List.length_map, List.length_range, Am.row_len]; omega)) only [b_face, v_c, v_g, v_v, v_bin, v_neg, v_cmp, v_chain, v_and, v_or, v_not, v_ix, v_sl, v_rev, v_tup, v_lst, v_call, v_bi, v_rng, v_srtSet, v_meth, v_isi, v_dnew, v_srtKey, vs_nil, vs_cons, vr_nil, vr_cons, vo_no, vo_so, vc_e, vc_own, vc_1, vc_2, vc_en, vc_zip, v_comp1, v_comp1c, v_comp2, x_pass, x_seq, x_frz, x_set, x_setO, x_unp, x_par, x_par3, x_iff, x_ret, x_retN, x_rai, x_exp, x_cont, x_for, x_whl, x_app, x_ext, x_pop0, x_setIx, own_s, kApp_L, kApp_I, kExt_L, kExt_I, kSet_L, kSet_I, kSet_T, kSet_K, R.bind_ok, R.fl_ok, R.nox_ok, then_kS, fl_kFor, then_rt, then_exc, toR_rt, toR_exc, asB_b, rd_val, rd_own, onx_s, List.getElem?_cons_zero, List.getElem?_cons_succ, List.set_cons_zero, List.set_cons_succ, List.map_cons, List.map_nil, List.cons_append, List.nil_append, List.replicate_succ, List.replicate_zero, Nat.reduceSub, Nat.sub_zero, cond_true, cond_false, cond_b1, cond_b2, Bool.not_true, Bool.not_false, List.length_cons, List.length_nil, Nat.zero_add, Nat.reduceAdd, b_nm, b_tup, bs_nil, bs_cons, b_some, frzE, own_I, own_L, own_T, own_K, n_add, n_mulL, n_mulR, n_sub, n_mod, n_div, n_lt, n_le, n_gt, n_ge, n_eq, n_ne, n_neg, ↓cmpr_map, ↓cmpA_map, ↓cmpA_range, cmpA_ok, cmpA_okc, cmpN_ok, cmpN_okc, cmpA_none, cmpN_none, gd_t, gd_k, r1_n, rng_t, rng_l, psk_ok, ix_t0, ix_t1, ix_t2, ix_t3, ix_t4, ix_m4, ix_m5, ix_dI, ix_lI, len_t, len_l, len_dI, len_lI, src_d, src_l, src_L, src_T, srcO_L, srcO_I, tup_l, tup_lI, tup_t, tup_dI, lst_dI, lst_lI, lst_t, fold_lI, fold_dI, sum_lI, cat_dI, tup1_n, tup0_n, lst0_n, papp_I, papp_L, fold_snoc, fold_set, pext_L, psetI_I, psetL_I, fold_l, fold_t, fold_l1, pss_l, pss_d, in_lI, in_dI, nin_lI, nin_dI, meOk_i, meOk_L, me_idx, sl_from, sl_to, plo_n, plo_j, isi_ni, isi_nb, isi_nt, isi_dt, isi_tt, isi_ss, all_b, any_b, eq_lI, eq_dI, ne_lI, ne_dI, int_b, min_n, max_n, mul_lI, cat_lI, sorted_I, eq_bb, ne_bb, map_dsnoc, sub_01, max_0j, ne_LD, ne_DD, Mk.d, cs_00, cs_01, cs_02, cs_10, cs_11, cs_12, cs_20, cs_21, cs_22, Mk.face]
  | table x y f =>
    have hs' : s < y.length := by rw [hM.2.2.1]; exact hs
    simp (disch := first | omega | with_reducible assumption | (simp only [List.length_cons, List.length_nil, List.length_append, List.length_map, List.length_range, Am.row_len]; omega)) only [b_face, v_c, v_g, v_v, v_bin, v_neg, v_cmp, v_chain, v_and, v_or, v_not, v_ix, v_sl, v_rev, v_tup, v_lst, v_call, v_bi, v_rng, v_srtSet, v_meth, v_isi, v_dnew, v_srtKey, vs_nil, vs_cons, vr_nil, vr_cons, vo_no, vo_so, vc_e, vc_own, vc_1, vc_2, vc_en, vc_zip, v_comp1, v_comp1c, v_comp2, x_pass, x_seq, x_frz, x_set, x_setO, x_unp, x_par, x_par3, x_iff, x_ret, x_retN, x_rai, x_exp, x_cont, x_for, x_whl, x_app, x_ext, x_pop0, x_setIx, own_s, kApp_L, kApp_I, kExt_L, kExt_I, kSet_L, kSet_I, kSet_T, kSet_K, R.bind_ok, R.fl_ok, R.nox_ok, then_kS, fl_kFor, then_rt, then_exc, toR_rt, toR_exc, asB_b, rd_val, rd_own, onx_s, List.getElem?_cons_zero, List.getElem?_cons_succ, List.set_cons_zero, List.set_cons_succ, List.map_cons, List.map_nil, List.cons_append, List.nil_append, List.replicate_succ, List.replicate_zero, Nat.reduceSub, Nat.sub_zero, cond_true, cond_false, cond_b1, cond_b2, Bool.not_true, Bool.not_false, List.length_cons, List.length_nil, Nat.zero_add, Nat.reduceAdd, b_nm, b_tup, bs_nil, bs_cons, b_some, frzE, own_I, own_L, own_T, own_K, n_add, n_mulL, n_mulR, n_sub, n_mod, n_div, n_lt, n_le, n_gt, n_ge, n_eq, n_ne, n_neg, ↓cmpr_map, ↓cmpA_map, ↓cmpA_range, cmpA_ok, cmpA_okc, cmpN_ok, cmpN_okc, cmpA_none, cmpN_none, gd_t, gd_k, r1_n, rng_t, rng_l, psk_ok, ix_t0, ix_t1, ix_t2, ix_t3, ix_t4, ix_m4, ix_m5, ix_dI, ix_lI, len_t, len_l, len_dI, len_lI, src_d, src_l, src_L, src_T, srcO_L, srcO_I, tup_l, tup_lI, tup_t, tup_dI, lst_dI, lst_lI, lst_t, fold_lI, fold_dI, sum_lI, cat_dI, tup1_n, tup0_n, lst0_n, papp_I, papp_L, fold_snoc, fold_set, pext_L, psetI_I, psetL_I, fold_l, fold_t, fold_l1, pss_l, pss_d, in_lI, in_dI, nin_lI, nin_dI, meOk_i, meOk_L, me_idx, sl_from, sl_to, plo_n, plo_j, isi_ni, isi_nb, isi_nt, isi_dt, isi_tt, isi_ss, all_b, any_b, eq_lI, eq_dI, ne_lI, ne_dI, int_b, min_n, max_n, mul_lI, cat_lI, sorted_I, eq_bb, ne_bb, map_dsnoc, sub_01, max_0j, ne_LD, ne_DD, Mk.d, cs_00, cs_01, cs_02, cs_10, cs_11, cs_12, cs_20, cs_21, cs_22, Mk.face]
end
end Iv
end

section
namespace Iv
open PySem
/-- the plain maker of a maker -/
def Mk.am (M : Mk) : Am := ⟨M.size, fun s => if s < M.size then M.step s else 0, fun s => if s < M.size then M.face s else 0, M.faces⟩
theorem Mk.am_n (M : Mk) : M.am.n = M.size := Eq.trans rfl rfl
theorem Mk.am_k (M : Mk) : M.am.k = M.faces := Eq.trans rfl rfl
theorem Mk.faces_2 {M : Mk} (h : M.ok) : 2 ≤ M.faces ∧ M.faces ≤ 6 := by
  cases M with
  | sums => exact h.2.2.2.2
  | bits => exact h.2.2.2.2.2
  | table => exact h.2.2.2.2.2
theorem Mk.am_ok {M : Mk} (h : M.ok) : M.am.Ok where
  pos := Mk.size_pos h
  le := Mk.size_le h
  f_lt := fun s => by
    show (if s < M.size then M.step s else 0) < M.size
    split
    · rename_i hs; exact Mk.step_lt h hs
    · exact Mk.size_pos h
  g_lt := fun s => by
    show (if s < M.size then M.face s else 0) < M.faces
    split
    · rename_i hs; exact Mk.face_lt h hs
    · have := Mk.faces_2 h; omega
  k2 := (Mk.faces_2 h).1
  k6 := (Mk.faces_2 h).2
/-- the table of a plain maker -/
def Am.tab (A : Am) : Mk := .table ((List.range A.n).map A.f) ((List.range A.n).map A.g) A.k
theorem Am.tab_ok {A : Am} (h : A.Ok) : A.tab.ok := by
  refine ⟨?_, ?_, ?_, ?_, ?_, h.k2, h.k6⟩
  · rw [List.length_map, List.length_range]; exact h.pos
  · rw [List.length_map, List.length_range]; exact h.le
  · rw [List.length_map, List.length_map]
  · intro g hg
    obtain ⟨s, _, rfl⟩ := List.mem_map.mp hg
    rw [List.length_map, List.length_range]; exact h.f_lt s
  · intro g hg
    obtain ⟨s, _, rfl⟩ := List.mem_map.mp hg
    exact h.g_lt s
theorem Am.tab_size (A : Am) : A.tab.size = A.n := by
  show ((List.range A.n).map A.f).length = _
  rw [List.length_map, List.length_range]
theorem getD_map (f : Nat → Nat) {n s : Nat} (h : s < n) : (((List.range n).map f)[s]?).getD 0 = f s := by
  rw [List.getElem?_map, List.getElem?_range h]; rfl
/-- a table's plain maker is what it was made of -/
theorem Mk.tab_am (M : Mk) : M.am.tab.am = M.am := by
  have hs : M.am.tab.size = M.size := Am.tab_size M.am
  show Am.mk _ _ _ _ = Am.mk _ _ _ _
  rw [hs]
  have h1 : (fun s => if s < M.size then M.am.tab.step s else 0) = fun s => if s < M.size then M.step s else 0 := funext fun s => by
    split
    · rename_i h
      show (((List.range M.size).map M.am.f)[s]?).getD 0 = _
      rw [getD_map _ h]
      show (if s < M.size then M.step s else 0) = _
      rw [if_pos h]
    · rfl
  have h2 : (fun s => if s < M.size then M.am.tab.face s else 0) = fun s => if s < M.size then M.face s else 0 := funext fun s => by
    split
    · rename_i h
      show (((List.range M.size).map M.am.g)[s]?).getD 0 = _
      rw [getD_map _ h]
      show (if s < M.size then M.face s else 0) = _
      rw [if_pos h]
    · rfl
  rw [h1, h2]
  rfl
section
variable {DS : List Def} [Has DS "power" 2 4 b_power] [Has DS "stands" 1 1 b_stands]
theorem r_stands (n : Nat) {M : Mk} (hM : M.ok) : runF DS (n + 2) "stands" [M.d] = .ok (nI M.am.n) := run_stands n hM
variable [Has DS "step" 2 4 b_step]
theorem r_step (n : Nat) {M : Mk} (hM : M.ok) {s : Nat} (hs : s < M.am.n) : runF DS (n + 3) "step" [M.d, nI s] = .ok (nI (M.am.f s)) := by
  rw [run_step n hM hs]
  show _ = R.ok (nI (if s < M.size then M.step s else 0))
  rw [if_pos (show s < M.size from hs)]
end
section
variable {DS : List Def} [Has DS "faces_many" 1 1 b_faces_many]
theorem r_faces (n : Nat) (M : Mk) : runF DS (n + 1) "faces_many" [M.d] = .ok (nI M.am.k) := run_faces n M
end
theorem d_last (M : Mk) : pix M.d (nJ 1) = .ok (nI M.am.k) := by
  cases M with
  | sums m a b f => exact ix_m5 _ _ _ _ _
  | bits k t f => exact ix_m4 _ _ _ _
  | table x y f => exact ix_m4 _ _ _ _
section
variable {DS : List Def} [Has DS "face" 2 2 b_face]
theorem r_face (n : Nat) {M : Mk} (hM : M.ok) {s : Nat} (hs : s < M.am.n) : runF DS (n + 1) "face" [M.d, nI s] = .ok (nI (M.am.g s)) := by
  rw [run_face n hM hs]
  show _ = R.ok (nI (if s < M.size then M.face s else 0))
  rw [if_pos (show s < M.size from hs)]
end
section
variable {DS : List Def} [Has DS "power" 2 4 b_power] [Has DS "stands" 1 1 b_stands] [Has DS "step" 2 4 b_step] [Has DS "face" 2 2 b_face] [Has DS "drawn" 3 5 b_drawn]
theorem r_drawn (n : Nat) {M : Mk} (hM : M.ok) {s : Nat} (hs : s < M.am.n) {k : Nat} (hk : k < 1000000) : runF DS (n + 4) "drawn" [M.d, nI s, nI k] = .ok (dI (M.am.row s k)) := by
  have hA := Mk.am_ok hM
  rw [run_has (n + 3) _ rfl]
  simp (disch := first | omega | with_reducible assumption | (simp only [List.length_cons, List.length_nil, List.length_append, List.length_map, List.length_range, Am.row_len]; omega)) only [b_drawn, v_c, v_g, v_v, v_bin, v_neg, v_cmp, v_chain, v_and, v_or, v_not, v_ix, v_sl, v_rev, v_tup, v_lst, v_call, v_bi, v_rng, v_srtSet, v_meth, v_isi, v_dnew, v_srtKey, vs_nil, vs_cons, vr_nil, vr_cons, vo_no, vo_so, vc_e, vc_own, vc_1, vc_2, vc_en, vc_zip, v_comp1, v_comp1c, v_comp2, x_pass, x_seq, x_frz, x_set, x_setO, x_unp, x_par, x_par3, x_iff, x_ret, x_retN, x_rai, x_exp, x_cont, x_for, x_whl, x_app, x_ext, x_pop0, x_setIx, own_s, kApp_L, kApp_I, kExt_L, kExt_I, kSet_L, kSet_I, kSet_T, kSet_K, R.bind_ok, R.fl_ok, R.nox_ok, then_kS, fl_kFor, then_rt, then_exc, toR_rt, toR_exc, asB_b, rd_val, rd_own, onx_s, List.getElem?_cons_zero, List.getElem?_cons_succ, List.set_cons_zero, List.set_cons_succ, List.map_cons, List.map_nil, List.cons_append, List.nil_append, List.replicate_succ, List.replicate_zero, Nat.reduceSub, Nat.sub_zero, cond_true, cond_false, cond_b1, cond_b2, Bool.not_true, Bool.not_false, List.length_cons, List.length_nil, Nat.zero_add, Nat.reduceAdd, b_nm, b_tup, bs_nil, bs_cons, b_some, frzE, own_I, own_L, own_T, own_K, n_add, n_mulL, n_mulR, n_sub, n_mod, n_div, n_lt, n_le, n_gt, n_ge, n_eq, n_ne, n_neg, ↓cmpr_map, ↓cmpA_map, ↓cmpA_range, cmpA_ok, cmpA_okc, cmpN_ok, cmpN_okc, cmpA_none, cmpN_none, gd_t, gd_k, r1_n, rng_t, rng_l, psk_ok, ix_t0, ix_t1, ix_t2, ix_t3, ix_t4, ix_m4, ix_m5, ix_dI, ix_lI, len_t, len_l, len_dI, len_lI, src_d, src_l, src_L, src_T, srcO_L, srcO_I, tup_l, tup_lI, tup_t, tup_dI, lst_dI, lst_lI, lst_t, fold_lI, fold_dI, sum_lI, cat_dI, tup1_n, tup0_n, lst0_n, papp_I, papp_L, fold_snoc, fold_set, pext_L, psetI_I, psetL_I, fold_l, fold_t, fold_l1, pss_l, pss_d, in_lI, in_dI, nin_lI, nin_dI, meOk_i, meOk_L, me_idx, sl_from, sl_to, plo_n, plo_j, isi_ni, isi_nb, isi_nt, isi_dt, isi_tt, isi_ss, all_b, any_b, eq_lI, eq_dI, ne_lI, ne_dI, int_b, min_n, max_n, mul_lI, cat_lI, sorted_I, eq_bb, ne_bb, map_dsnoc, sub_01, max_0j, ne_LD, ne_DD]
  rw [forS_range (fun i => [.val M.d, .val (nI (M.am.go s i)), .val (nI k), .val (dI (M.am.row s i)), lv i]) ?_ fun i hi => ?_]
  · simp (disch := first | omega | with_reducible assumption | (simp only [List.length_cons, List.length_nil, List.length_append, List.length_map, List.length_range, Am.row_len]; omega)) only [v_c, v_g, v_v, v_bin, v_neg, v_cmp, v_chain, v_and, v_or, v_not, v_ix, v_sl, v_rev, v_tup, v_lst, v_call, v_bi, v_rng, v_srtSet, v_meth, v_isi, v_dnew, v_srtKey, vs_nil, vs_cons, vr_nil, vr_cons, vo_no, vo_so, vc_e, vc_own, vc_1, vc_2, vc_en, vc_zip, v_comp1, v_comp1c, v_comp2, x_pass, x_seq, x_frz, x_set, x_setO, x_unp, x_par, x_par3, x_iff, x_ret, x_retN, x_rai, x_exp, x_cont, x_for, x_whl, x_app, x_ext, x_pop0, x_setIx, own_s, kApp_L, kApp_I, kExt_L, kExt_I, kSet_L, kSet_I, kSet_T, kSet_K, R.bind_ok, R.fl_ok, R.nox_ok, then_kS, fl_kFor, then_rt, then_exc, toR_rt, toR_exc, asB_b, rd_val, rd_own, onx_s, List.getElem?_cons_zero, List.getElem?_cons_succ, List.set_cons_zero, List.set_cons_succ, List.map_cons, List.map_nil, List.cons_append, List.nil_append, List.replicate_succ, List.replicate_zero, Nat.reduceSub, Nat.sub_zero, cond_true, cond_false, cond_b1, cond_b2, Bool.not_true, Bool.not_false, List.length_cons, List.length_nil, Nat.zero_add, Nat.reduceAdd, b_nm, b_tup, bs_nil, bs_cons, b_some, frzE, own_I, own_L, own_T, own_K]
  · rfl
  · have hg := Am.go_lt hA hs i
    have hl := Am.row_len M.am i s
    simp (disch := first | omega | with_reducible assumption | (simp only [List.length_cons, List.length_nil, List.length_append, List.length_map, List.length_range, Am.row_len]; omega)) only [v_c, v_g, v_v, v_bin, v_neg, v_cmp, v_chain, v_and, v_or, v_not, v_ix, v_sl, v_rev, v_tup, v_lst, v_call, v_bi, v_rng, v_srtSet, v_meth, v_isi, v_dnew, v_srtKey, vs_nil, vs_cons, vr_nil, vr_cons, vo_no, vo_so, vc_e, vc_own, vc_1, vc_2, vc_en, vc_zip, v_comp1, v_comp1c, v_comp2, x_pass, x_seq, x_frz, x_set, x_setO, x_unp, x_par, x_par3, x_iff, x_ret, x_retN, x_rai, x_exp, x_cont, x_for, x_whl, x_app, x_ext, x_pop0, x_setIx, own_s, kApp_L, kApp_I, kExt_L, kExt_I, kSet_L, kSet_I, kSet_T, kSet_K, R.bind_ok, R.fl_ok, R.nox_ok, then_kS, fl_kFor, then_rt, then_exc, toR_rt, toR_exc, asB_b, rd_val, rd_own, onx_s, List.getElem?_cons_zero, List.getElem?_cons_succ, List.set_cons_zero, List.set_cons_succ, List.map_cons, List.map_nil, List.cons_append, List.nil_append, List.replicate_succ, List.replicate_zero, Nat.reduceSub, Nat.sub_zero, cond_true, cond_false, cond_b1, cond_b2, Bool.not_true, Bool.not_false, List.length_cons, List.length_nil, Nat.zero_add, Nat.reduceAdd, b_nm, b_tup, bs_nil, bs_cons, b_some, frzE, own_I, own_L, own_T, own_K, n_add, n_mulL, n_mulR, n_sub, n_mod, n_div, n_lt, n_le, n_gt, n_ge, n_eq, n_ne, n_neg, ↓cmpr_map, ↓cmpA_map, ↓cmpA_range, cmpA_ok, cmpA_okc, cmpN_ok, cmpN_okc, cmpA_none, cmpN_none, gd_t, gd_k, r1_n, rng_t, rng_l, psk_ok, ix_t0, ix_t1, ix_t2, ix_t3, ix_t4, ix_m4, ix_m5, ix_dI, ix_lI, len_t, len_l, len_dI, len_lI, src_d, src_l, src_L, src_T, srcO_L, srcO_I, tup_l, tup_lI, tup_t, tup_dI, lst_dI, lst_lI, lst_t, fold_lI, fold_dI, sum_lI, cat_dI, tup1_n, tup0_n, lst0_n, papp_I, papp_L, fold_snoc, fold_set, pext_L, psetI_I, psetL_I, fold_l, fold_t, fold_l1, pss_l, pss_d, in_lI, in_dI, nin_lI, nin_dI, meOk_i, meOk_L, me_idx, sl_from, sl_to, plo_n, plo_j, isi_ni, isi_nb, isi_nt, isi_dt, isi_tt, isi_ss, all_b, any_b, eq_lI, eq_dI, ne_lI, ne_dI, int_b, min_n, max_n, mul_lI, cat_lI, sorted_I, eq_bb, ne_bb, map_dsnoc, sub_01, max_0j, ne_LD, ne_DD, r_step, r_face, ← Am.go_succ, ← Am.row_succ, Am.row_len]
    rfl
end
section
variable {DS : List Def} [Has DS "power" 2 4 b_power] [Has DS "stands" 1 1 b_stands] [Has DS "step" 2 4 b_step] [Has DS "face" 2 2 b_face] [Has DS "faces_many" 1 1 b_faces_many] [Has DS "as_table" 1 4 b_as_table]
theorem r_as_table (n : Nat) {M : Mk} (hM : M.ok) : runF DS (n + 4) "as_table" [M.d] = .ok M.am.tab.d := by
  have hA := (Mk.am_ok hM).le
  rw [run_has (n + 3) _ rfl]
  simp +contextual (disch := first | omega | with_reducible assumption | (simp only [List.length_cons, List.length_nil, List.length_append, List.length_map, List.length_range, Am.row_len]; omega)) only [b_as_table, v_c, v_g, v_v, v_bin, v_neg, v_cmp, v_chain, v_and, v_or, v_not, v_ix, v_sl, v_rev, v_tup, v_lst, v_call, v_bi, v_rng, v_srtSet, v_meth, v_isi, v_dnew, v_srtKey, vs_nil, vs_cons, vr_nil, vr_cons, vo_no, vo_so, vc_e, vc_own, vc_1, vc_2, vc_en, vc_zip, v_comp1, v_comp1c, v_comp2, x_pass, x_seq, x_frz, x_set, x_setO, x_unp, x_par, x_par3, x_iff, x_ret, x_retN, x_rai, x_exp, x_cont, x_for, x_whl, x_app, x_ext, x_pop0, x_setIx, own_s, kApp_L, kApp_I, kExt_L, kExt_I, kSet_L, kSet_I, kSet_T, kSet_K, R.bind_ok, R.fl_ok, R.nox_ok, then_kS, fl_kFor, then_rt, then_exc, toR_rt, toR_exc, asB_b, rd_val, rd_own, onx_s, List.getElem?_cons_zero, List.getElem?_cons_succ, List.set_cons_zero, List.set_cons_succ, List.map_cons, List.map_nil, List.cons_append, List.nil_append, List.replicate_succ, List.replicate_zero, Nat.reduceSub, Nat.sub_zero, cond_true, cond_false, cond_b1, cond_b2, Bool.not_true, Bool.not_false, List.length_cons, List.length_nil, Nat.zero_add, Nat.reduceAdd, b_nm, b_tup, bs_nil, bs_cons, b_some, frzE, own_I, own_L, own_T, own_K, n_add, n_mulL, n_mulR, n_sub, n_mod, n_div, n_lt, n_le, n_gt, n_ge, n_eq, n_ne, n_neg, ↓cmpr_map, ↓cmpA_map, ↓cmpA_range, cmpA_ok, cmpA_okc, cmpN_ok, cmpN_okc, cmpA_none, cmpN_none, gd_t, gd_k, r1_n, rng_t, rng_l, psk_ok, ix_t0, ix_t1, ix_t2, ix_t3, ix_t4, ix_m4, ix_m5, ix_dI, ix_lI, len_t, len_l, len_dI, len_lI, src_d, src_l, src_L, src_T, srcO_L, srcO_I, tup_l, tup_lI, tup_t, tup_dI, lst_dI, lst_lI, lst_t, fold_lI, fold_dI, sum_lI, cat_dI, tup1_n, tup0_n, lst0_n, papp_I, papp_L, fold_snoc, fold_set, pext_L, psetI_I, psetL_I, fold_l, fold_t, fold_l1, pss_l, pss_d, in_lI, in_dI, nin_lI, nin_dI, meOk_i, meOk_L, me_idx, sl_from, sl_to, plo_n, plo_j, isi_ni, isi_nb, isi_nt, isi_dt, isi_tt, isi_ss, all_b, any_b, eq_lI, eq_dI, ne_lI, ne_dI, int_b, min_n, max_n, mul_lI, cat_lI, sorted_I, eq_bb, ne_bb, map_dsnoc, sub_01, max_0j, ne_LD, ne_DD, r_stands, r_step, r_face, r_faces]
  rfl
end
end Iv
end

section
namespace Iv
open PySem
/-! ### for, over what is told by a list -/
/-- a loop's own name behind so much of the list -/
def lvL {α : Type} (enc : α → PyData) (p : List α) : Slot := match p.getLast? with
  | none => .nul
  | some a => .val (enc a)
theorem lvL_snoc {α : Type} (enc : α → PyData) (p : List α) (a : α) : lvL enc (p ++ [a]) = .val (enc a) := by
  unfold lvL; rw [List.getLast?_concat]
theorem forS_fold0 {α : Type} {F : Str → List PyData → R PyData} {b : S} {t : T} {enc : α → PyData} (ρ : List α → Env) : ∀ (l p : List α),
    (∀ q a r, p ++ l = q ++ a :: r → ∃ ρ1, bindT t (enc a) (ρ q) = some ρ1 ∧ ex F b ρ1 = .nx (ρ (q ++ [a]))) → forS F t b (l.map enc) (ρ p) = .nx (ρ (p ++ l))
  | [], p, _ => by rw [List.append_nil]; rfl
  | a :: l, p, h => by
    obtain ⟨ρ1, h1, h2⟩ := h p a l rfl
    rw [List.map_cons]
    show (match onx (bindT t (enc a) (ρ p)) (fun ρ1 => ex F b ρ1) with | .nx ρ' => forS F t b (l.map enc) ρ' | .ct ρ' => forS F t b (l.map enc) ρ' | .bk ρ' => .nx ρ' | o => o) = _
    rw [h1]
    show (match ex F b ρ1 with | .nx ρ' => forS F t b (l.map enc) ρ' | .ct ρ' => forS F t b (l.map enc) ρ' | .bk ρ' => .nx ρ' | o => o) = _
    rw [h2]
    show forS F t b (l.map enc) (ρ (p ++ [a])) = _
    have e : p ++ a :: l = p ++ [a] ++ l := by rw [List.append_assoc]; rfl
    rw [forS_fold0 ρ l (p ++ [a]) (by rw [← e]; exact h), e]
theorem forS_fold {α : Type} {F : Str → List PyData → R PyData} {b : S} {t : T} {enc : α → PyData} {l : List α} {ρ0 : Env} (ρ : List α → Env) (h0 : ρ0 = ρ [])
    (h : ∀ q a r, l = q ++ a :: r → ∃ ρ1, bindT t (enc a) (ρ q) = some ρ1 ∧ ex F b ρ1 = .nx (ρ (q ++ [a]))) : forS F t b (l.map enc) ρ0 = .nx (ρ l) := by
  have := forS_fold0 (F := F) (b := b) (t := t) (enc := enc) ρ l [] h
  rw [h0]; exact this
/-- for a simple name -/
theorem forS_fold1 {α : Type} {F : Str → List PyData → R PyData} {b : S} {t : Nat} {enc : α → PyData} {l : List α} {ρ0 : Env} (ρ : List α → Env) (h0 : ρ0 = ρ [])
    (h : ∀ q a, a ∈ l → (∀ x ∈ q, x ∈ l) → q.length < l.length → ex F b ((ρ q).set t (.val (enc a))) = .nx (ρ (q ++ [a]))) : forS F (.nm t) b (l.map enc) ρ0 = .nx (ρ l) :=
  forS_fold ρ h0 fun q a r e => ⟨_, rfl, h q a (by rw [e]; exact List.mem_append_right _ (.head _)) (fun x hx => by rw [e]; exact List.mem_append_left _ hx) (by rw [e, List.length_append, List.length_cons]; omega)⟩
/-- a loop that only looks: what it leaves in its own names is of no matter -/
theorem forS_keep {α β : Type} {F : Str → List PyData → R PyData} {b : S} {t : T} {enc : α → PyData} (E : β → Env) : ∀ {l : List α}, (∀ a, a ∈ l → ∀ j : β, ∃ ρ1 j', bindT t (enc a) (E j) = some ρ1 ∧ ex F b ρ1 = .nx (E j')) → ∀ j : β, ∃ j', forS F t b (l.map enc) (E j) = .nx (E j')
  | [], _, j => ⟨j, rfl⟩
  | a :: l, h, j => by
    obtain ⟨ρ1, j1, h1, h2⟩ := h a (.head _) j
    obtain ⟨j2, h3⟩ := forS_keep (b := b) (t := t) (enc := enc) E (l := l) (fun x hx => h x (.tail _ hx)) j1
    refine ⟨j2, ?_⟩
    rw [List.map_cons]
    show (match onx (bindT t (enc a) (E j)) (fun ρ1 => ex F b ρ1) with | .nx ρ' => forS F t b (l.map enc) ρ' | .ct ρ' => forS F t b (l.map enc) ρ' | .bk ρ' => .nx ρ' | o => o) = _
    rw [h1]
    show (match ex F b ρ1 with | .nx ρ' => forS F t b (l.map enc) ρ' | .ct ρ' => forS F t b (l.map enc) ρ' | .bk ρ' => .nx ρ' | o => o) = _
    rw [h2]
    exact h3
theorem forS_keep1 {α β : Type} {F : Str → List PyData → R PyData} {b : S} {t : Nat} {enc : α → PyData} {l : List α} {ρ0 : Env} (E : β → Env) (j : β) (h0 : ρ0 = E j) (h : ∀ a, a ∈ l → ∀ j : β, ∃ j', ex F b ((E j).set t (.val (enc a))) = .nx (E j')) : ∃ j', forS F (.nm t) b (l.map enc) ρ0 = .nx (E j') := by
  rw [h0]
  exact forS_keep E (fun a ha j => by
    obtain ⟨j', e⟩ := h a ha j
    exact ⟨_, j', b_nm _ _ _, e⟩) j
theorem forS_keepN {β : Type} {F : Str → List PyData → R PyData} {b : S} {t n : Nat} {ρ0 : Env} (E : β → Env) (j : β) (h0 : ρ0 = E j) (h : ∀ i, i < n → ∀ j : β, ∃ j', ex F b ((E j).set t (.val (nI i))) = .nx (E j')) : ∃ j', forS F (.nm t) b ((List.range n).map nI) ρ0 = .nx (E j') :=
  forS_keep1 E j h0 fun a ha j => h a (List.mem_range.mp ha) j
/-! ### while -/
section
variable {F : Str → List PyData → R PyData} {c : E} {b : S}
theorem whl_t {n : Nat} {ρ ρ1 : Env} (hc : (ev F false c ρ).bind asB = .ok true) (hb : ex F b ρ = .nx ρ1) : whlS F c b (n + 1) ρ = whlS F c b n ρ1 := by
  show whileL _ _ (n + 1) ρ = _
  rw [whileL, hc, R.fl_ok, if_pos rfl, hb]; rfl
theorem whl_f {n : Nat} {ρ : Env} (hc : (ev F false c ρ).bind asB = .ok false) : whlS F c b (n + 1) ρ = .nx ρ := by
  show whileL _ _ (n + 1) ρ = _
  rw [whileL, hc, R.fl_ok, if_neg (by decide)]
theorem whl_go (ρ : Nat → Env) (p : Nat → Bool) (hc : ∀ i, (∀ j, j < i → p j = true) → (ev F false c (ρ i)).bind asB = .ok (p i)) (hb : ∀ i, (∀ j, j ≤ i → p j = true) → ex F b (ρ i) = .nx (ρ (i + 1))) :
    ∀ (d i N T : Nat), T = i + d → (∀ j, j < i → p j = true) → p T = false → d < N → ∃ T', T' ≤ T ∧ p T' = false ∧ (∀ j, j < T' → p j = true) ∧ whlS F c b N (ρ i) = .nx (ρ T')
  | 0, i, N, T, hT, hp, hf, hN => by
    obtain ⟨N, rfl⟩ : ∃ n, N = n + 1 := ⟨N - 1, by omega⟩
    have e : T = i := by omega
    subst e
    exact ⟨T, Nat.le_refl _, hf, hp, whl_f (by rw [hc T hp, hf])⟩
  | d + 1, i, N, T, hT, hp, hf, hN => by
    obtain ⟨N, rfl⟩ : ∃ n, N = n + 1 := ⟨N - 1, by omega⟩
    cases q : p i with
    | false => exact ⟨i, by omega, q, hp, whl_f (by rw [hc i hp, q])⟩
    | true =>
      have hp' : ∀ j, j < i + 1 → p j = true := fun j hj => by
        by_cases e : j = i
        · rw [e]; exact q
        · exact hp j (by omega)
      rw [whl_t (by rw [hc i hp, q]) (hb i fun j hj => hp' j (by omega))]
      exact whl_go ρ p hc hb d (i + 1) N T (by omega) hp' hf (by omega)
theorem whl_until {ρ0 : Env} (ρ : Nat → Env) (p : Nat → Bool) (h0 : ρ0 = ρ 0) (hc : ∀ i, (∀ j, j < i → p j = true) → (ev F false c (ρ i)).bind asB = .ok (p i)) (hb : ∀ i, (∀ j, j ≤ i → p j = true) → ex F b (ρ i) = .nx (ρ (i + 1)))
    {T : Nat} (hf : p T = false) (hT : T < 1000000000) : ∃ T', T' ≤ T ∧ p T' = false ∧ (∀ j, j < T' → p j = true) ∧ whlS F c b WF ρ0 = .nx (ρ T') := by
  rw [h0]
  exact whl_go ρ p hc hb T 0 WF T (by omega) (fun j hj => by omega) hf (by rw [WF_eq]; omega)
end
section
variable {DS : List Def} [Has DS "power" 2 4 b_power] [Has DS "stands" 1 1 b_stands] [Has DS "step" 2 4 b_step] [Has DS "behind" 3 6 b_behind]
theorem r_behind (n : Nat) {M : Mk} (hM : M.ok) {s : Nat} (hs : s < M.am.n) {m : Nat} (hm : m < 2 ^ 64) : runF DS (n + 4) "behind" [M.d, nI s, nI m] = .ok (nI (M.am.go s m)) := by
  have hA := Mk.am_ok hM
  have h64 := hA.le
  rw [run_has (n + 3) _ rfl]
  simp +contextual (disch := first | omega | with_reducible assumption | (simp only [List.length_cons, List.length_nil, List.length_append, List.length_map, List.length_range, Am.row_len]; omega)) only [b_behind, v_c, v_g, v_v, v_bin, v_neg, v_cmp, v_chain, v_and, v_or, v_not, v_ix, v_sl, v_rev, v_tup, v_lst, v_call, v_bi, v_rng, v_srtSet, v_meth, v_isi, v_dnew, v_srtKey, vs_nil, vs_cons, vr_nil, vr_cons, vo_no, vo_so, vc_e, vc_own, vc_1, vc_2, vc_en, vc_zip, v_comp1, v_comp1c, v_comp2, x_pass, x_seq, x_frz, x_set, x_setO, x_unp, x_par, x_par3, x_iff, x_ret, x_retN, x_rai, x_exp, x_cont, x_for, x_whl, x_app, x_ext, x_pop0, x_setIx, own_s, kApp_L, kApp_I, kExt_L, kExt_I, kSet_L, kSet_I, kSet_T, kSet_K, R.bind_ok, R.fl_ok, R.nox_ok, then_kS, fl_kFor, then_rt, then_exc, toR_rt, toR_exc, asB_b, rd_val, rd_own, onx_s, List.getElem?_cons_zero, List.getElem?_cons_succ, List.set_cons_zero, List.set_cons_succ, List.map_cons, List.map_nil, List.cons_append, List.nil_append, List.replicate_succ, List.replicate_zero, Nat.reduceSub, Nat.sub_zero, cond_true, cond_false, cond_b1, cond_b2, Bool.not_true, Bool.not_false, List.length_cons, List.length_nil, Nat.zero_add, Nat.reduceAdd, b_nm, b_tup, bs_nil, bs_cons, b_some, frzE, own_I, own_L, own_T, own_K, n_add, n_mulL, n_mulR, n_sub, n_mod, n_div, n_lt, n_le, n_gt, n_ge, n_eq, n_ne, n_neg, ↓cmpr_map, ↓cmpA_map, ↓cmpA_range, cmpA_ok, cmpA_okc, cmpN_ok, cmpN_okc, cmpA_none, cmpN_none, gd_t, gd_k, r1_n, rng_t, rng_l, psk_ok, ix_t0, ix_t1, ix_t2, ix_t3, ix_t4, ix_m4, ix_m5, ix_dI, ix_lI, len_t, len_l, len_dI, len_lI, src_d, src_l, src_L, src_T, srcO_L, srcO_I, tup_l, tup_lI, tup_t, tup_dI, lst_dI, lst_lI, lst_t, fold_lI, fold_dI, sum_lI, cat_dI, tup1_n, tup0_n, lst0_n, papp_I, papp_L, fold_snoc, fold_set, pext_L, psetI_I, psetL_I, fold_l, fold_t, fold_l1, pss_l, pss_d, in_lI, in_dI, nin_lI, nin_dI, meOk_i, meOk_L, me_idx, sl_from, sl_to, plo_n, plo_j, isi_ni, isi_nb, isi_nt, isi_dt, isi_tt, isi_ss, all_b, any_b, eq_lI, eq_dI, ne_lI, ne_dI, int_b, min_n, max_n, mul_lI, cat_lI, sorted_I, eq_bb, ne_bb, map_dsnoc, sub_01, max_0j, ne_LD, ne_DD, r_stands, r_step]
  have hc : ∀ i, (ev (runF DS (n + 3)) false (.cmp .gt (.v 2) (.c (nI 0))) [.val M.d, .val (nI (M.am.go s (m % 2 ^ i))), .val (nI (m / 2 ^ i)), .val (lI ((List.range M.am.n).map fun x => M.am.go x (2 ^ i))), .nul, .nul]).bind asB = .ok (decide (0 < m / 2 ^ i)) := by
    intro i
    simp (disch := first | omega | with_reducible assumption | (simp only [List.length_cons, List.length_nil, List.length_append, List.length_map, List.length_range, Am.row_len]; omega)) only [v_c, v_g, v_v, v_bin, v_neg, v_cmp, v_chain, v_and, v_or, v_not, v_ix, v_sl, v_rev, v_tup, v_lst, v_call, v_bi, v_rng, v_srtSet, v_meth, v_isi, v_dnew, v_srtKey, vs_nil, vs_cons, vr_nil, vr_cons, vo_no, vo_so, vc_e, vc_own, vc_1, vc_2, vc_en, vc_zip, v_comp1, v_comp1c, v_comp2, x_pass, x_seq, x_frz, x_set, x_setO, x_unp, x_par, x_par3, x_iff, x_ret, x_retN, x_rai, x_exp, x_cont, x_for, x_whl, x_app, x_ext, x_pop0, x_setIx, own_s, kApp_L, kApp_I, kExt_L, kExt_I, kSet_L, kSet_I, kSet_T, kSet_K, R.bind_ok, R.fl_ok, R.nox_ok, then_kS, fl_kFor, then_rt, then_exc, toR_rt, toR_exc, asB_b, rd_val, rd_own, onx_s, List.getElem?_cons_zero, List.getElem?_cons_succ, List.set_cons_zero, List.set_cons_succ, List.map_cons, List.map_nil, List.cons_append, List.nil_append, List.replicate_succ, List.replicate_zero, Nat.reduceSub, Nat.sub_zero, cond_true, cond_false, cond_b1, cond_b2, Bool.not_true, Bool.not_false, List.length_cons, List.length_nil, Nat.zero_add, Nat.reduceAdd, b_nm, b_tup, bs_nil, bs_cons, b_some, frzE, own_I, own_L, own_T, own_K, n_add, n_mulL, n_mulR, n_sub, n_mod, n_div, n_lt, n_le, n_gt, n_ge, n_eq, n_ne, n_neg, ↓cmpr_map, ↓cmpA_map, ↓cmpA_range, cmpA_ok, cmpA_okc, cmpN_ok, cmpN_okc, cmpA_none, cmpN_none, gd_t, gd_k, r1_n, rng_t, rng_l, psk_ok, ix_t0, ix_t1, ix_t2, ix_t3, ix_t4, ix_m4, ix_m5, ix_dI, ix_lI, len_t, len_l, len_dI, len_lI, src_d, src_l, src_L, src_T, srcO_L, srcO_I, tup_l, tup_lI, tup_t, tup_dI, lst_dI, lst_lI, lst_t, fold_lI, fold_dI, sum_lI, cat_dI, tup1_n, tup0_n, lst0_n, papp_I, papp_L, fold_snoc, fold_set, pext_L, psetI_I, psetL_I, fold_l, fold_t, fold_l1, pss_l, pss_d, in_lI, in_dI, nin_lI, nin_dI, meOk_i, meOk_L, me_idx, sl_from, sl_to, plo_n, plo_j, isi_ni, isi_nb, isi_nt, isi_dt, isi_tt, isi_ss, all_b, any_b, eq_lI, eq_dI, ne_lI, ne_dI, int_b, min_n, max_n, mul_lI, cat_lI, sorted_I, eq_bb, ne_bb, map_dsnoc, sub_01, max_0j, ne_LD, ne_DD]
  have hb : ∀ i, ex (runF DS (n + 3)) (.seq (.iff (.cmp .eq (.bin .mod (.v 2) (.c (nI 2))) (.c (nI 1))) (.set 1 (.ix (.v 3) (.v 1))) .pass) (.seq (.set 3 (.comp (.nm 5) (.e (.v 3)) .no (.ix (.v 3) (.v 5)) [5])) (.set 2 (.bin .div (.v 2) (.c (nI 2))))))
      [.val M.d, .val (nI (M.am.go s (m % 2 ^ i))), .val (nI (m / 2 ^ i)), .val (lI ((List.range M.am.n).map fun x => M.am.go x (2 ^ i))), .nul, .nul] = .nx [.val M.d, .val (nI (M.am.go s (m % 2 ^ (i + 1)))), .val (nI (m / 2 ^ (i + 1))), .val (lI ((List.range M.am.n).map fun x => M.am.go x (2 ^ (i + 1)))), .nul, .nul] := by
    intro i
    have hp : 0 < 2 ^ i := Nat.pow_pos (by decide)
    have hg := Am.go_lt hA hs (m % 2 ^ i)
    have e1 : m / 2 ^ i / 2 = m / 2 ^ (i + 1) := by rw [Nat.div_div_eq_div_mul, Nat.pow_succ]
    have e2 : m % 2 ^ (i + 1) = m % 2 ^ i + 2 ^ i * (m / 2 ^ i % 2) := by rw [Nat.pow_succ, Nat.mod_mul]
    have e3 : ∀ x, M.am.go x (2 ^ (i + 1)) = M.am.go (M.am.go x (2 ^ i)) (2 ^ i) := fun x => by rw [← Am.go_add, Nat.pow_succ, Nat.mul_two]
    have hgx : ∀ x, x < M.am.n → pix (lI ((List.range M.am.n).map fun x => M.am.go x (2 ^ i))) (nI x) = .ok (nI (M.am.go x (2 ^ i))) := fun x hx => by
      rw [ix_lI (by rw [List.length_map, List.length_range]; exact hx), getD_map _ hx]
    have hgo : ∀ a, a < M.am.n → pix (lI ((List.range M.am.n).map fun x => M.am.go x (2 ^ i))) (nI (M.am.go a (2 ^ i))) = .ok (nI (M.am.go (M.am.go a (2 ^ i)) (2 ^ i))) := fun a ha => hgx _ (Am.go_lt hA ha _)
    by_cases hd : m / 2 ^ i % 2 = 1
    · simp +contextual (disch := first | omega | with_reducible assumption | (simp only [List.length_cons, List.length_nil, List.length_append, List.length_map, List.length_range, Am.row_len]; omega)) only [v_c, v_g, v_v, v_bin, v_neg, v_cmp, v_chain, v_and, v_or, v_not, v_ix, v_sl, v_rev, v_tup, v_lst, v_call, v_bi, v_rng, v_srtSet, v_meth, v_isi, v_dnew, v_srtKey, vs_nil, vs_cons, vr_nil, vr_cons, vo_no, vo_so, vc_e, vc_own, vc_1, vc_2, vc_en, vc_zip, v_comp1, v_comp1c, v_comp2, x_pass, x_seq, x_frz, x_set, x_setO, x_unp, x_par, x_par3, x_iff, x_ret, x_retN, x_rai, x_exp, x_cont, x_for, x_whl, x_app, x_ext, x_pop0, x_setIx, own_s, kApp_L, kApp_I, kExt_L, kExt_I, kSet_L, kSet_I, kSet_T, kSet_K, R.bind_ok, R.fl_ok, R.nox_ok, then_kS, fl_kFor, then_rt, then_exc, toR_rt, toR_exc, asB_b, rd_val, rd_own, onx_s, List.getElem?_cons_zero, List.getElem?_cons_succ, List.set_cons_zero, List.set_cons_succ, List.map_cons, List.map_nil, List.cons_append, List.nil_append, List.replicate_succ, List.replicate_zero, Nat.reduceSub, Nat.sub_zero, cond_true, cond_false, cond_b1, cond_b2, Bool.not_true, Bool.not_false, List.length_cons, List.length_nil, Nat.zero_add, Nat.reduceAdd, b_nm, b_tup, bs_nil, bs_cons, b_some, frzE, own_I, own_L, own_T, own_K, n_add, n_mulL, n_mulR, n_sub, n_mod, n_div, n_lt, n_le, n_gt, n_ge, n_eq, n_ne, n_neg, ↓cmpr_map, ↓cmpA_map, ↓cmpA_range, cmpA_ok, cmpA_okc, cmpN_ok, cmpN_okc, cmpA_none, cmpN_none, gd_t, gd_k, r1_n, rng_t, rng_l, psk_ok, ix_t0, ix_t1, ix_t2, ix_t3, ix_t4, ix_m4, ix_m5, ix_dI, ix_lI, len_t, len_l, len_dI, len_lI, src_d, src_l, src_L, src_T, srcO_L, srcO_I, tup_l, tup_lI, tup_t, tup_dI, lst_dI, lst_lI, lst_t, fold_lI, fold_dI, sum_lI, cat_dI, tup1_n, tup0_n, lst0_n, papp_I, papp_L, fold_snoc, fold_set, pext_L, psetI_I, psetL_I, fold_l, fold_t, fold_l1, pss_l, pss_d, in_lI, in_dI, nin_lI, nin_dI, meOk_i, meOk_L, me_idx, sl_from, sl_to, plo_n, plo_j, isi_ni, isi_nb, isi_nt, isi_dt, isi_tt, isi_ss, all_b, any_b, eq_lI, eq_dI, ne_lI, ne_dI, int_b, min_n, max_n, mul_lI, cat_lI, sorted_I, eq_bb, ne_bb, map_dsnoc, sub_01, max_0j, ne_LD, ne_DD, hgx, hgo, hd, decide_true, e1, e2, Nat.mul_one, Am.go_add, e3]
    · have hd' : m / 2 ^ i % 2 = 0 := by omega
      rw [hd', Nat.mul_zero, Nat.add_zero] at e2
      simp +contextual (disch := first | omega | with_reducible assumption | (simp only [List.length_cons, List.length_nil, List.length_append, List.length_map, List.length_range, Am.row_len]; omega)) only [v_c, v_g, v_v, v_bin, v_neg, v_cmp, v_chain, v_and, v_or, v_not, v_ix, v_sl, v_rev, v_tup, v_lst, v_call, v_bi, v_rng, v_srtSet, v_meth, v_isi, v_dnew, v_srtKey, vs_nil, vs_cons, vr_nil, vr_cons, vo_no, vo_so, vc_e, vc_own, vc_1, vc_2, vc_en, vc_zip, v_comp1, v_comp1c, v_comp2, x_pass, x_seq, x_frz, x_set, x_setO, x_unp, x_par, x_par3, x_iff, x_ret, x_retN, x_rai, x_exp, x_cont, x_for, x_whl, x_app, x_ext, x_pop0, x_setIx, own_s, kApp_L, kApp_I, kExt_L, kExt_I, kSet_L, kSet_I, kSet_T, kSet_K, R.bind_ok, R.fl_ok, R.nox_ok, then_kS, fl_kFor, then_rt, then_exc, toR_rt, toR_exc, asB_b, rd_val, rd_own, onx_s, List.getElem?_cons_zero, List.getElem?_cons_succ, List.set_cons_zero, List.set_cons_succ, List.map_cons, List.map_nil, List.cons_append, List.nil_append, List.replicate_succ, List.replicate_zero, Nat.reduceSub, Nat.sub_zero, cond_true, cond_false, cond_b1, cond_b2, Bool.not_true, Bool.not_false, List.length_cons, List.length_nil, Nat.zero_add, Nat.reduceAdd, b_nm, b_tup, bs_nil, bs_cons, b_some, frzE, own_I, own_L, own_T, own_K, n_add, n_mulL, n_mulR, n_sub, n_mod, n_div, n_lt, n_le, n_gt, n_ge, n_eq, n_ne, n_neg, ↓cmpr_map, ↓cmpA_map, ↓cmpA_range, cmpA_ok, cmpA_okc, cmpN_ok, cmpN_okc, cmpA_none, cmpN_none, gd_t, gd_k, r1_n, rng_t, rng_l, psk_ok, ix_t0, ix_t1, ix_t2, ix_t3, ix_t4, ix_m4, ix_m5, ix_dI, ix_lI, len_t, len_l, len_dI, len_lI, src_d, src_l, src_L, src_T, srcO_L, srcO_I, tup_l, tup_lI, tup_t, tup_dI, lst_dI, lst_lI, lst_t, fold_lI, fold_dI, sum_lI, cat_dI, tup1_n, tup0_n, lst0_n, papp_I, papp_L, fold_snoc, fold_set, pext_L, psetI_I, psetL_I, fold_l, fold_t, fold_l1, pss_l, pss_d, in_lI, in_dI, nin_lI, nin_dI, meOk_i, meOk_L, me_idx, sl_from, sl_to, plo_n, plo_j, isi_ni, isi_nb, isi_nt, isi_dt, isi_tt, isi_ss, all_b, any_b, eq_lI, eq_dI, ne_lI, ne_dI, int_b, min_n, max_n, mul_lI, cat_lI, sorted_I, eq_bb, ne_bb, map_dsnoc, sub_01, max_0j, ne_LD, ne_DD, hgx, hgo, decide_eq_false hd, e1, e2, e3, Nat.add_zero]
  have h00 : ([.val M.d, .val (nI s), .val (nI m), .val (lI ((List.range M.am.n).map M.am.f)), .nul, .nul] : Env) = [.val M.d, .val (nI (M.am.go s (m % 2 ^ 0))), .val (nI (m / 2 ^ 0)), .val (lI ((List.range M.am.n).map fun x => M.am.go x (2 ^ 0))), .nul, .nul] := by
    rw [Nat.pow_zero, Nat.mod_one, Nat.div_one]; rfl
  obtain ⟨T, _, h1, h2, h3⟩ := whl_until (fun i => [.val M.d, .val (nI (M.am.go s (m % 2 ^ i))), .val (nI (m / 2 ^ i)), .val (lI ((List.range M.am.n).map fun x => M.am.go x (2 ^ i))), .nul, .nul]) (fun i => decide (0 < m / 2 ^ i)) h00 (fun i _ => hc i) (fun i _ => hb i) (T := 64) (decide_eq_false (by rw [Nat.div_eq_of_lt hm]; decide)) (by decide)
  rw [h3]
  have h1 := of_decide_eq_false h1
  have : m < 2 ^ T := by
    rcases Nat.lt_or_ge m (2 ^ T) with h | h
    · exact h
    · exact (h1 (Nat.div_pos h (Nat.pow_pos (by decide)))).elim
  simp (disch := first | omega | with_reducible assumption | (simp only [List.length_cons, List.length_nil, List.length_append, List.length_map, List.length_range, Am.row_len]; omega)) only [v_c, v_g, v_v, v_bin, v_neg, v_cmp, v_chain, v_and, v_or, v_not, v_ix, v_sl, v_rev, v_tup, v_lst, v_call, v_bi, v_rng, v_srtSet, v_meth, v_isi, v_dnew, v_srtKey, vs_nil, vs_cons, vr_nil, vr_cons, vo_no, vo_so, vc_e, vc_own, vc_1, vc_2, vc_en, vc_zip, v_comp1, v_comp1c, v_comp2, x_pass, x_seq, x_frz, x_set, x_setO, x_unp, x_par, x_par3, x_iff, x_ret, x_retN, x_rai, x_exp, x_cont, x_for, x_whl, x_app, x_ext, x_pop0, x_setIx, own_s, kApp_L, kApp_I, kExt_L, kExt_I, kSet_L, kSet_I, kSet_T, kSet_K, R.bind_ok, R.fl_ok, R.nox_ok, then_kS, fl_kFor, then_rt, then_exc, toR_rt, toR_exc, asB_b, rd_val, rd_own, onx_s, List.getElem?_cons_zero, List.getElem?_cons_succ, List.set_cons_zero, List.set_cons_succ, List.map_cons, List.map_nil, List.cons_append, List.nil_append, List.replicate_succ, List.replicate_zero, Nat.reduceSub, Nat.sub_zero, cond_true, cond_false, cond_b1, cond_b2, Bool.not_true, Bool.not_false, List.length_cons, List.length_nil, Nat.zero_add, Nat.reduceAdd, b_nm, b_tup, bs_nil, bs_cons, b_some, frzE, own_I, own_L, own_T, own_K, Nat.mod_eq_of_lt this]
end
end Iv
end

section
namespace Iv
open PySem
def b_law_cell_at : S := (.seq (.iff (.cmp .lt (.v 1) (.bi .len (.cons (.v 0) .nil))) (.ret (.ix (.v 0) (.v 1))) .pass) (.ret (.c (nI 0))))
def b_law_mixed : S := (.seq (.set 2 (.bin .mod (.bin .mul (.bin .add (.bin .add (.call "_law_cell_at" (.cons (.v 0) (.cons (.v 1) .nil))) (.bin .mul (.c (nI 7919)) (.v 1))) (.c (nI 1))) (.c (nI 48271))) (.c (nI 2147483647)))) (.ret (.bin .mod (.bin .add (.bin .add (.bin .mul (.v 2) (.v 2)) (.bin .mul (.c (nI 7)) (.v 2))) (.v 1)) (.c (nI 2147483629)))))
def b_law_drawn : S := (.seq (.set 2 (.bin .mod (.bin .mul (.bin .add (.bin .add (.v 0) (.bin .mul (.c (nI 104729)) (.v 1))) (.c (nI 17))) (.c (nI 69621))) (.c (nI 2147483647)))) (.ret (.bin .mod (.bin .add (.bin .add (.bin .mul (.v 2) (.v 2)) (.bin .mul (.c (nI 3)) (.v 2))) (.v 1)) (.c (nI 2147483629)))))
def b_law_many : S := (.seq (.iff (.cmp .eq (.ix (.v 0) (.c (nI 0))) (.c (.str "bits"))) (.ret (.ix (.tup (.cons (.c (nI 1)) (.cons (.c (nI 2)) (.cons (.c (nI 4)) (.cons (.c (nI 8)) (.cons (.c (nI 16)) (.cons (.c (nI 32)) (.cons (.c (nI 64)) .nil)))))))) (.ix (.v 0) (.c (nI 1))))) .pass) (.seq (.iff (.cmp .eq (.ix (.v 0) (.c (nI 0))) (.c (.str "sums"))) (.ret (.ix (.v 0) (.c (nI 1)))) .pass) (.ret (.bi .len (.cons (.ix (.v 0) (.c (nI 1))) .nil)))))
def b_law_step : S := (.seq (.iff (.cmp .eq (.ix (.v 0) (.c (nI 0))) (.c (.str "sums"))) (.ret (.bin .mod (.bin .add (.bin .mul (.ix (.v 0) (.c (nI 2))) (.v 1)) (.ix (.v 0) (.c (nI 3)))) (.ix (.v 0) (.c (nI 1))))) .pass) (.seq (.iff (.cmp .eq (.ix (.v 0) (.c (nI 0))) (.c (.str "table"))) (.ret (.ix (.ix (.v 0) (.c (nI 1))) (.v 1))) .pass) (.seq (.set 2 (.c (nI 0))) (.seq (.for_ (.nm 3) (.e (.ix (.v 0) (.c (nI 2)))) (.set 2 (.bin .mod (.bin .add (.v 2) (.bin .div (.v 1) (.ix (.tup (.cons (.c (nI 1)) (.cons (.c (nI 2)) (.cons (.c (nI 4)) (.cons (.c (nI 8)) (.cons (.c (nI 16)) (.cons (.c (nI 32)) .nil))))))) (.v 3)))) (.c (nI 2))))) (.ret (.bin .add (.bin .mod (.bin .mul (.c (nI 2)) (.v 1)) (.call "_law_many" (.cons (.v 0) .nil))) (.v 2)))))))
def b_law_face : S := (.seq (.iff (.cmp .eq (.ix (.v 0) (.c (nI 0))) (.c (.str "sums"))) (.ret (.bin .div (.bin .mul (.v 1) (.ix (.v 0) (.c (nI 4)))) (.ix (.v 0) (.c (nI 1))))) .pass) (.seq (.iff (.cmp .eq (.ix (.v 0) (.c (nI 0))) (.c (.str "bits"))) (.ret (.bin .mod (.v 1) (.ix (.v 0) (.c (nI 3))))) .pass) (.ret (.ix (.ix (.v 0) (.c (nI 2))) (.v 1)))))
def b_law_row : S := (.seq (.setO 3 (.lst .nil)) (.seq (.for_ (.nm 4) (.r1 (.v 2)) (.seq (.app 3 (.call "_law_face" (.cons (.v 0) (.cons (.v 1) .nil)))) (.set 1 (.call "_law_step" (.cons (.v 0) (.cons (.v 1) .nil)))))) (.ret (.bi .tuple (.cons (.v 3) .nil)))))
/-! ### numbers of a script -/
def cell (ns : List Int) (k : Nat) : Int := (ns[k]?).getD 0
/-- the number of a script's cell; a number drawn of a number -/
@[irreducible] def mixN (ns : List Int) (k : Nat) : Nat := let d := ((cell ns k + (7919 * k : Nat) + (1 : Nat)) * (48271 : Nat) % (2147483647 : Nat)).toNat; (d * d + 7 * d + k) % 2147483629
@[irreducible] def drwN (a k : Nat) : Nat := let d := ((a + 104729 * k + 17) * 69621) % 2147483647; (d * d + 3 * d + k) % 2147483629
theorem mixN_lt (ns : List Int) (k : Nat) : mixN ns k < 2147483629 := by unfold mixN; exact Nat.mod_lt _ (by decide)
theorem drwN_lt (a k : Nat) : drwN a k < 2147483629 := by unfold drwN; exact Nat.mod_lt _ (by decide)
theorem i_add (c : Int) (a : Nat) : pbin .add (.int c) (nI a) = .ok (.int (c + a)) := Eq.trans rfl rfl
theorem i_mul (c : Int) {a : Nat} (h : a < 18446744073709551616) : pbin .mul (.int c) (nI a) = .ok (.int (c * a)) := by
  have e : mulOk c (a : Int) = true := mulOk_r ⟨by omega, by omega⟩
  show (if mulOk c (a : Int) = true then R.ok (PyData.int (c * a)) else .bad) = _
  rw [if_pos e]
theorem i_mod (c : Int) {a : Nat} (h : 0 < a) : pbin .mod (.int c) (nI a) = .ok (nI (c % (a : Int)).toNat) := by
  show (if _ then _ else _) = _
  rw [if_pos (by omega), Int.fmod_eq_emod_of_nonneg _ (Int.natCast_nonneg a)]
  unfold nI
  rw [Int.toNat_of_nonneg (Int.emod_nonneg _ (by omega))]
theorem len_s (ns : List Int) : pbi .len [scriptD ns] = .ok (nI ns.length) := by
  show R.ok (PyData.int ((ns.map fun i => (PyData.int i, PyData.none)).length : Nat)) = _
  rw [List.length_map]; rfl
theorem ix_s {ns : List Int} {k : Nat} (hk : k < ns.length) : pix (scriptD ns) (nI k) = .ok (.int (cell ns k)) := by
  show (match L2.atI (ns.map fun i => (PyData.int i, PyData.none)) (k : Int) with | some v => R.ok v.1 | none => .bad) = _
  rw [atI_nat, List.getElem?_map, List.getElem?_eq_getElem hk]
  unfold cell
  rw [List.getElem?_eq_getElem hk]; rfl
section
variable {DS : List Def} [Has DS "_law_cell_at" 2 2 b_law_cell_at]
theorem r_cell (n : Nat) (ns : List Int) (k : Nat) : runF DS (n + 1) "_law_cell_at" [scriptD ns, nI k] = .ok (.int (cell ns k)) := by
  rw [run_has n _ rfl]
  by_cases hk : k < ns.length
  · simp (disch := first | omega | with_reducible assumption | (simp only [List.length_cons, List.length_nil, List.length_append, List.length_map, List.length_range, Am.row_len]; omega)) only [b_law_cell_at, v_c, v_g, v_v, v_bin, v_neg, v_cmp, v_chain, v_and, v_or, v_not, v_ix, v_sl, v_rev, v_tup, v_lst, v_call, v_bi, v_rng, v_srtSet, v_meth, v_isi, v_dnew, v_srtKey, vs_nil, vs_cons, vr_nil, vr_cons, vo_no, vo_so, vc_e, vc_own, vc_1, vc_2, vc_en, vc_zip, v_comp1, v_comp1c, v_comp2, x_pass, x_seq, x_frz, x_set, x_setO, x_unp, x_par, x_par3, x_iff, x_ret, x_retN, x_rai, x_exp, x_cont, x_for, x_whl, x_app, x_ext, x_pop0, x_setIx, own_s, kApp_L, kApp_I, kExt_L, kExt_I, kSet_L, kSet_I, kSet_T, kSet_K, R.bind_ok, R.fl_ok, R.nox_ok, then_kS, fl_kFor, then_rt, then_exc, toR_rt, toR_exc, asB_b, rd_val, rd_own, onx_s, List.getElem?_cons_zero, List.getElem?_cons_succ, List.set_cons_zero, List.set_cons_succ, List.map_cons, List.map_nil, List.cons_append, List.nil_append, List.replicate_succ, List.replicate_zero, Nat.reduceSub, Nat.sub_zero, cond_true, cond_false, cond_b1, cond_b2, Bool.not_true, Bool.not_false, List.length_cons, List.length_nil, Nat.zero_add, Nat.reduceAdd, b_nm, b_tup, bs_nil, bs_cons, b_some, frzE, own_I, own_L, own_T, own_K, n_add, n_mulL, n_mulR, n_sub, n_mod, n_div, n_lt, n_le, n_gt, n_ge, n_eq, n_ne, n_neg, ↓cmpr_map, ↓cmpA_map, ↓cmpA_range, cmpA_ok, cmpA_okc, cmpN_ok, cmpN_okc, cmpA_none, cmpN_none, gd_t, gd_k, r1_n, rng_t, rng_l, psk_ok, ix_t0, ix_t1, ix_t2, ix_t3, ix_t4, ix_m4, ix_m5, ix_dI, ix_lI, len_t, len_l, len_dI, len_lI, src_d, src_l, src_L, src_T, srcO_L, srcO_I, tup_l, tup_lI, tup_t, tup_dI, lst_dI, lst_lI, lst_t, fold_lI, fold_dI, sum_lI, cat_dI, tup1_n, tup0_n, lst0_n, papp_I, papp_L, fold_snoc, fold_set, pext_L, psetI_I, psetL_I, fold_l, fold_t, fold_l1, pss_l, pss_d, in_lI, in_dI, nin_lI, nin_dI, meOk_i, meOk_L, me_idx, sl_from, sl_to, plo_n, plo_j, isi_ni, isi_nb, isi_nt, isi_dt, isi_tt, isi_ss, all_b, any_b, eq_lI, eq_dI, ne_lI, ne_dI, int_b, min_n, max_n, mul_lI, cat_lI, sorted_I, eq_bb, ne_bb, map_dsnoc, sub_01, max_0j, ne_LD, ne_DD, len_s, ix_s, decide_eq_true hk]
  · have e : cell ns k = 0 := by unfold cell; rw [List.getElem?_eq_none (by omega)]; rfl
    simp (disch := first | omega | with_reducible assumption | (simp only [List.length_cons, List.length_nil, List.length_append, List.length_map, List.length_range, Am.row_len]; omega)) only [b_law_cell_at, v_c, v_g, v_v, v_bin, v_neg, v_cmp, v_chain, v_and, v_or, v_not, v_ix, v_sl, v_rev, v_tup, v_lst, v_call, v_bi, v_rng, v_srtSet, v_meth, v_isi, v_dnew, v_srtKey, vs_nil, vs_cons, vr_nil, vr_cons, vo_no, vo_so, vc_e, vc_own, vc_1, vc_2, vc_en, vc_zip, v_comp1, v_comp1c, v_comp2, x_pass, x_seq, x_frz, x_set, x_setO, x_unp, x_par, x_par3, x_iff, x_ret, x_retN, x_rai, x_exp, x_cont, x_for, x_whl, x_app, x_ext, x_pop0, x_setIx, own_s, kApp_L, kApp_I, kExt_L, kExt_I, kSet_L, kSet_I, kSet_T, kSet_K, R.bind_ok, R.fl_ok, R.nox_ok, then_kS, fl_kFor, then_rt, then_exc, toR_rt, toR_exc, asB_b, rd_val, rd_own, onx_s, List.getElem?_cons_zero, List.getElem?_cons_succ, List.set_cons_zero, List.set_cons_succ, List.map_cons, List.map_nil, List.cons_append, List.nil_append, List.replicate_succ, List.replicate_zero, Nat.reduceSub, Nat.sub_zero, cond_true, cond_false, cond_b1, cond_b2, Bool.not_true, Bool.not_false, List.length_cons, List.length_nil, Nat.zero_add, Nat.reduceAdd, b_nm, b_tup, bs_nil, bs_cons, b_some, frzE, own_I, own_L, own_T, own_K, n_add, n_mulL, n_mulR, n_sub, n_mod, n_div, n_lt, n_le, n_gt, n_ge, n_eq, n_ne, n_neg, ↓cmpr_map, ↓cmpA_map, ↓cmpA_range, cmpA_ok, cmpA_okc, cmpN_ok, cmpN_okc, cmpA_none, cmpN_none, gd_t, gd_k, r1_n, rng_t, rng_l, psk_ok, ix_t0, ix_t1, ix_t2, ix_t3, ix_t4, ix_m4, ix_m5, ix_dI, ix_lI, len_t, len_l, len_dI, len_lI, src_d, src_l, src_L, src_T, srcO_L, srcO_I, tup_l, tup_lI, tup_t, tup_dI, lst_dI, lst_lI, lst_t, fold_lI, fold_dI, sum_lI, cat_dI, tup1_n, tup0_n, lst0_n, papp_I, papp_L, fold_snoc, fold_set, pext_L, psetI_I, psetL_I, fold_l, fold_t, fold_l1, pss_l, pss_d, in_lI, in_dI, nin_lI, nin_dI, meOk_i, meOk_L, me_idx, sl_from, sl_to, plo_n, plo_j, isi_ni, isi_nb, isi_nt, isi_dt, isi_tt, isi_ss, all_b, any_b, eq_lI, eq_dI, ne_lI, ne_dI, int_b, min_n, max_n, mul_lI, cat_lI, sorted_I, eq_bb, ne_bb, map_dsnoc, sub_01, max_0j, ne_LD, ne_DD, len_s, decide_eq_false hk, e]
    rfl
variable [Has DS "_law_mixed" 2 3 b_law_mixed]
theorem r_mixed (n : Nat) (ns : List Int) (k : Nat) : runF DS (n + 2) "_law_mixed" [scriptD ns, nI k] = .ok (nI (mixN ns k)) := by
  rw [run_has (n + 1) _ rfl]
  have bd : ((cell ns k + (7919 * k : Nat) + (1 : Nat)) * (48271 : Nat) % (2147483647 : Nat)).toNat < 2147483647 := by omega
  simp (disch := first | omega | with_reducible assumption | (simp only [List.length_cons, List.length_nil, List.length_append, List.length_map, List.length_range, Am.row_len]; omega)) only [b_law_mixed, v_c, v_g, v_v, v_bin, v_neg, v_cmp, v_chain, v_and, v_or, v_not, v_ix, v_sl, v_rev, v_tup, v_lst, v_call, v_bi, v_rng, v_srtSet, v_meth, v_isi, v_dnew, v_srtKey, vs_nil, vs_cons, vr_nil, vr_cons, vo_no, vo_so, vc_e, vc_own, vc_1, vc_2, vc_en, vc_zip, v_comp1, v_comp1c, v_comp2, x_pass, x_seq, x_frz, x_set, x_setO, x_unp, x_par, x_par3, x_iff, x_ret, x_retN, x_rai, x_exp, x_cont, x_for, x_whl, x_app, x_ext, x_pop0, x_setIx, own_s, kApp_L, kApp_I, kExt_L, kExt_I, kSet_L, kSet_I, kSet_T, kSet_K, R.bind_ok, R.fl_ok, R.nox_ok, then_kS, fl_kFor, then_rt, then_exc, toR_rt, toR_exc, asB_b, rd_val, rd_own, onx_s, List.getElem?_cons_zero, List.getElem?_cons_succ, List.set_cons_zero, List.set_cons_succ, List.map_cons, List.map_nil, List.cons_append, List.nil_append, List.replicate_succ, List.replicate_zero, Nat.reduceSub, Nat.sub_zero, cond_true, cond_false, cond_b1, cond_b2, Bool.not_true, Bool.not_false, List.length_cons, List.length_nil, Nat.zero_add, Nat.reduceAdd, b_nm, b_tup, bs_nil, bs_cons, b_some, frzE, own_I, own_L, own_T, own_K, n_add, n_mulL, n_mulR, n_sub, n_mod, n_div, n_lt, n_le, n_gt, n_ge, n_eq, n_ne, n_neg, ↓cmpr_map, ↓cmpA_map, ↓cmpA_range, cmpA_ok, cmpA_okc, cmpN_ok, cmpN_okc, cmpA_none, cmpN_none, gd_t, gd_k, r1_n, rng_t, rng_l, psk_ok, ix_t0, ix_t1, ix_t2, ix_t3, ix_t4, ix_m4, ix_m5, ix_dI, ix_lI, len_t, len_l, len_dI, len_lI, src_d, src_l, src_L, src_T, srcO_L, srcO_I, tup_l, tup_lI, tup_t, tup_dI, lst_dI, lst_lI, lst_t, fold_lI, fold_dI, sum_lI, cat_dI, tup1_n, tup0_n, lst0_n, papp_I, papp_L, fold_snoc, fold_set, pext_L, psetI_I, psetL_I, fold_l, fold_t, fold_l1, pss_l, pss_d, in_lI, in_dI, nin_lI, nin_dI, meOk_i, meOk_L, me_idx, sl_from, sl_to, plo_n, plo_j, isi_ni, isi_nb, isi_nt, isi_dt, isi_tt, isi_ss, all_b, any_b, eq_lI, eq_dI, ne_lI, ne_dI, int_b, min_n, max_n, mul_lI, cat_lI, sorted_I, eq_bb, ne_bb, map_dsnoc, sub_01, max_0j, ne_LD, ne_DD, r_cell, i_add, i_mul, i_mod]
  unfold mixN
  rfl
end
section
variable {DS : List Def} [Has DS "_law_drawn" 2 3 b_law_drawn]
theorem r_ldrawn (n a k : Nat) : runF DS (n + 1) "_law_drawn" [nI a, nI k] = .ok (nI (drwN a k)) := by
  rw [run_has n _ rfl]
  have bd : (a + 104729 * k + 17) * 69621 % 2147483647 < 2147483647 := Nat.mod_lt _ (by decide)
  simp (disch := first | omega | with_reducible assumption | (simp only [List.length_cons, List.length_nil, List.length_append, List.length_map, List.length_range, Am.row_len]; omega)) only [b_law_drawn, v_c, v_g, v_v, v_bin, v_neg, v_cmp, v_chain, v_and, v_or, v_not, v_ix, v_sl, v_rev, v_tup, v_lst, v_call, v_bi, v_rng, v_srtSet, v_meth, v_isi, v_dnew, v_srtKey, vs_nil, vs_cons, vr_nil, vr_cons, vo_no, vo_so, vc_e, vc_own, vc_1, vc_2, vc_en, vc_zip, v_comp1, v_comp1c, v_comp2, x_pass, x_seq, x_frz, x_set, x_setO, x_unp, x_par, x_par3, x_iff, x_ret, x_retN, x_rai, x_exp, x_cont, x_for, x_whl, x_app, x_ext, x_pop0, x_setIx, own_s, kApp_L, kApp_I, kExt_L, kExt_I, kSet_L, kSet_I, kSet_T, kSet_K, R.bind_ok, R.fl_ok, R.nox_ok, then_kS, fl_kFor, then_rt, then_exc, toR_rt, toR_exc, asB_b, rd_val, rd_own, onx_s, List.getElem?_cons_zero, List.getElem?_cons_succ, List.set_cons_zero, List.set_cons_succ, List.map_cons, List.map_nil, List.cons_append, List.nil_append, List.replicate_succ, List.replicate_zero, Nat.reduceSub, Nat.sub_zero, cond_true, cond_false, cond_b1, cond_b2, Bool.not_true, Bool.not_false, List.length_cons, List.length_nil, Nat.zero_add, Nat.reduceAdd, b_nm, b_tup, bs_nil, bs_cons, b_some, frzE, own_I, own_L, own_T, own_K, n_add, n_mulL, n_mulR, n_sub, n_mod, n_div, n_lt, n_le, n_gt, n_ge, n_eq, n_ne, n_neg, ↓cmpr_map, ↓cmpA_map, ↓cmpA_range, cmpA_ok, cmpA_okc, cmpN_ok, cmpN_okc, cmpA_none, cmpN_none, gd_t, gd_k, r1_n, rng_t, rng_l, psk_ok, ix_t0, ix_t1, ix_t2, ix_t3, ix_t4, ix_m4, ix_m5, ix_dI, ix_lI, len_t, len_l, len_dI, len_lI, src_d, src_l, src_L, src_T, srcO_L, srcO_I, tup_l, tup_lI, tup_t, tup_dI, lst_dI, lst_lI, lst_t, fold_lI, fold_dI, sum_lI, cat_dI, tup1_n, tup0_n, lst0_n, papp_I, papp_L, fold_snoc, fold_set, pext_L, psetI_I, psetL_I, fold_l, fold_t, fold_l1, pss_l, pss_d, in_lI, in_dI, nin_lI, nin_dI, meOk_i, meOk_L, me_idx, sl_from, sl_to, plo_n, plo_j, isi_ni, isi_nb, isi_nt, isi_dt, isi_tt, isi_ss, all_b, any_b, eq_lI, eq_dI, ne_lI, ne_dI, int_b, min_n, max_n, mul_lI, cat_lI, sorted_I, eq_bb, ne_bb, map_dsnoc, sub_01, max_0j, ne_LD, ne_DD]
  unfold drwN
  rfl
end
section
variable {DS : List Def} [Has DS "_law_many" 1 1 b_law_many]
theorem r_lmany (n : Nat) {M : Mk} (hM : M.ok) : runF DS (n + 1) "_law_many" [M.d] = .ok (nI M.am.n) := by
  rw [run_has n _ rfl]
  cases M with
  | sums m a b f =>
    simp (disch := first | omega | with_reducible assumption | (simp only [List.length_cons, List.length_nil, List.length_append, List.length_map, List.length_range, Am.row_len]; omega)) only [b_law_many, v_c, v_g, v_v, v_bin, v_neg, v_cmp, v_chain, v_and, v_or, v_not, v_ix, v_sl, v_rev, v_tup, v_lst, v_call, v_bi, v_rng, v_srtSet, v_meth, v_isi, v_dnew, v_srtKey, vs_nil, vs_cons, vr_nil, vr_cons, vo_no, vo_so, vc_e, vc_own, vc_1, vc_2, vc_en, vc_zip, v_comp1, v_comp1c, v_comp2, x_pass, x_seq, x_frz, x_set, x_setO, x_unp, x_par, x_par3, x_iff, x_ret, x_retN, x_rai, x_exp, x_cont, x_for, x_whl, x_app, x_ext, x_pop0, x_setIx, own_s, kApp_L, kApp_I, kExt_L, kExt_I, kSet_L, kSet_I, kSet_T, kSet_K, R.bind_ok, R.fl_ok, R.nox_ok, then_kS, fl_kFor, then_rt, then_exc, toR_rt, toR_exc, asB_b, rd_val, rd_own, onx_s, List.getElem?_cons_zero, List.getElem?_cons_succ, List.set_cons_zero, List.set_cons_succ, List.map_cons, List.map_nil, List.cons_append, List.nil_append, List.replicate_succ, List.replicate_zero, Nat.reduceSub, Nat.sub_zero, cond_true, cond_false, cond_b1, cond_b2, Bool.not_true, Bool.not_false, List.length_cons, List.length_nil, Nat.zero_add, Nat.reduceAdd, b_nm, b_tup, bs_nil, bs_cons, b_some, frzE, own_I, own_L, own_T, own_K, n_add, n_mulL, n_mulR, n_sub, n_mod, n_div, n_lt, n_le, n_gt, n_ge, n_eq, n_ne, n_neg, ↓cmpr_map, ↓cmpA_map, ↓cmpA_range, cmpA_ok, cmpA_okc, cmpN_ok, cmpN_okc, cmpA_none, cmpN_none, gd_t, gd_k, r1_n, rng_t, rng_l, psk_ok, ix_t0, ix_t1, ix_t2, ix_t3, ix_t4, ix_m4, ix_m5, ix_dI, ix_lI, len_t, len_l, len_dI, len_lI, src_d, src_l, src_L, src_T, srcO_L, srcO_I, tup_l, tup_lI, tup_t, tup_dI, lst_dI, lst_lI, lst_t, fold_lI, fold_dI, sum_lI, cat_dI, tup1_n, tup0_n, lst0_n, papp_I, papp_L, fold_snoc, fold_set, pext_L, psetI_I, psetL_I, fold_l, fold_t, fold_l1, pss_l, pss_d, in_lI, in_dI, nin_lI, nin_dI, meOk_i, meOk_L, me_idx, sl_from, sl_to, plo_n, plo_j, isi_ni, isi_nb, isi_nt, isi_dt, isi_tt, isi_ss, all_b, any_b, eq_lI, eq_dI, ne_lI, ne_dI, int_b, min_n, max_n, mul_lI, cat_lI, sorted_I, eq_bb, ne_bb, map_dsnoc, sub_01, max_0j, ne_LD, ne_DD, Mk.d, cs_00, cs_01, cs_02, cs_10, cs_11, cs_12, cs_20, cs_21, cs_22]
    rfl
  | bits k t f =>
    have hk := hM.2.1
    have ht : ∀ j, j ≤ 6 → pix (.tuple [nI 1, nI 2, nI 4, nI 8, nI 16, nI 32, nI 64]) (nI j) = .ok (nI (2 ^ j)) := fun j hj => by
      have : j = 0 ∨ j = 1 ∨ j = 2 ∨ j = 3 ∨ j = 4 ∨ j = 5 ∨ j = 6 := by omega
      rcases this with rfl | rfl | rfl | rfl | rfl | rfl | rfl <;> exact ix_t rfl
    simp (disch := first | omega | with_reducible assumption | (simp only [List.length_cons, List.length_nil, List.length_append, List.length_map, List.length_range, Am.row_len]; omega)) only [b_law_many, v_c, v_g, v_v, v_bin, v_neg, v_cmp, v_chain, v_and, v_or, v_not, v_ix, v_sl, v_rev, v_tup, v_lst, v_call, v_bi, v_rng, v_srtSet, v_meth, v_isi, v_dnew, v_srtKey, vs_nil, vs_cons, vr_nil, vr_cons, vo_no, vo_so, vc_e, vc_own, vc_1, vc_2, vc_en, vc_zip, v_comp1, v_comp1c, v_comp2, x_pass, x_seq, x_frz, x_set, x_setO, x_unp, x_par, x_par3, x_iff, x_ret, x_retN, x_rai, x_exp, x_cont, x_for, x_whl, x_app, x_ext, x_pop0, x_setIx, own_s, kApp_L, kApp_I, kExt_L, kExt_I, kSet_L, kSet_I, kSet_T, kSet_K, R.bind_ok, R.fl_ok, R.nox_ok, then_kS, fl_kFor, then_rt, then_exc, toR_rt, toR_exc, asB_b, rd_val, rd_own, onx_s, List.getElem?_cons_zero, List.getElem?_cons_succ, List.set_cons_zero, List.set_cons_succ, List.map_cons, List.map_nil, List.cons_append, List.nil_append, List.replicate_succ, List.replicate_zero, Nat.reduceSub, Nat.sub_zero, cond_true, cond_false, cond_b1, cond_b2, Bool.not_true, Bool.not_false, List.length_cons, List.length_nil, Nat.zero_add, Nat.reduceAdd, b_nm, b_tup, bs_nil, bs_cons, b_some, frzE, own_I, own_L, own_T, own_K, n_add, n_mulL, n_mulR, n_sub, n_mod, n_div, n_lt, n_le, n_gt, n_ge, n_eq, n_ne, n_neg, ↓cmpr_map, ↓cmpA_map, ↓cmpA_range, cmpA_ok, cmpA_okc, cmpN_ok, cmpN_okc, cmpA_none, cmpN_none, gd_t, gd_k, r1_n, rng_t, rng_l, psk_ok, ix_t0, ix_t1, ix_t2, ix_t3, ix_t4, ix_m4, ix_m5, ix_dI, ix_lI, len_t, len_l, len_dI, len_lI, src_d, src_l, src_L, src_T, srcO_L, srcO_I, tup_l, tup_lI, tup_t, tup_dI, lst_dI, lst_lI, lst_t, fold_lI, fold_dI, sum_lI, cat_dI, tup1_n, tup0_n, lst0_n, papp_I, papp_L, fold_snoc, fold_set, pext_L, psetI_I, psetL_I, fold_l, fold_t, fold_l1, pss_l, pss_d, in_lI, in_dI, nin_lI, nin_dI, meOk_i, meOk_L, me_idx, sl_from, sl_to, plo_n, plo_j, isi_ni, isi_nb, isi_nt, isi_dt, isi_tt, isi_ss, all_b, any_b, eq_lI, eq_dI, ne_lI, ne_dI, int_b, min_n, max_n, mul_lI, cat_lI, sorted_I, eq_bb, ne_bb, map_dsnoc, sub_01, max_0j, ne_LD, ne_DD, Mk.d, cs_00, cs_01, cs_02, cs_10, cs_11, cs_12, cs_20, cs_21, cs_22, ht]
    rfl
  | table x y f =>
    simp (disch := first | omega | with_reducible assumption | (simp only [List.length_cons, List.length_nil, List.length_append, List.length_map, List.length_range, Am.row_len]; omega)) only [b_law_many, v_c, v_g, v_v, v_bin, v_neg, v_cmp, v_chain, v_and, v_or, v_not, v_ix, v_sl, v_rev, v_tup, v_lst, v_call, v_bi, v_rng, v_srtSet, v_meth, v_isi, v_dnew, v_srtKey, vs_nil, vs_cons, vr_nil, vr_cons, vo_no, vo_so, vc_e, vc_own, vc_1, vc_2, vc_en, vc_zip, v_comp1, v_comp1c, v_comp2, x_pass, x_seq, x_frz, x_set, x_setO, x_unp, x_par, x_par3, x_iff, x_ret, x_retN, x_rai, x_exp, x_cont, x_for, x_whl, x_app, x_ext, x_pop0, x_setIx, own_s, kApp_L, kApp_I, kExt_L, kExt_I, kSet_L, kSet_I, kSet_T, kSet_K, R.bind_ok, R.fl_ok, R.nox_ok, then_kS, fl_kFor, then_rt, then_exc, toR_rt, toR_exc, asB_b, rd_val, rd_own, onx_s, List.getElem?_cons_zero, List.getElem?_cons_succ, List.set_cons_zero, List.set_cons_succ, List.map_cons, List.map_nil, List.cons_append, List.nil_append, List.replicate_succ, List.replicate_zero, Nat.reduceSub, Nat.sub_zero, cond_true, cond_false, cond_b1, cond_b2, Bool.not_true, Bool.not_false, List.length_cons, List.length_nil, Nat.zero_add, Nat.reduceAdd, b_nm, b_tup, bs_nil, bs_cons, b_some, frzE, own_I, own_L, own_T, own_K, n_add, n_mulL, n_mulR, n_sub, n_mod, n_div, n_lt, n_le, n_gt, n_ge, n_eq, n_ne, n_neg, ↓cmpr_map, ↓cmpA_map, ↓cmpA_range, cmpA_ok, cmpA_okc, cmpN_ok, cmpN_okc, cmpA_none, cmpN_none, gd_t, gd_k, r1_n, rng_t, rng_l, psk_ok, ix_t0, ix_t1, ix_t2, ix_t3, ix_t4, ix_m4, ix_m5, ix_dI, ix_lI, len_t, len_l, len_dI, len_lI, src_d, src_l, src_L, src_T, srcO_L, srcO_I, tup_l, tup_lI, tup_t, tup_dI, lst_dI, lst_lI, lst_t, fold_lI, fold_dI, sum_lI, cat_dI, tup1_n, tup0_n, lst0_n, papp_I, papp_L, fold_snoc, fold_set, pext_L, psetI_I, psetL_I, fold_l, fold_t, fold_l1, pss_l, pss_d, in_lI, in_dI, nin_lI, nin_dI, meOk_i, meOk_L, me_idx, sl_from, sl_to, plo_n, plo_j, isi_ni, isi_nb, isi_nt, isi_dt, isi_tt, isi_ss, all_b, any_b, eq_lI, eq_dI, ne_lI, ne_dI, int_b, min_n, max_n, mul_lI, cat_lI, sorted_I, eq_bb, ne_bb, map_dsnoc, sub_01, max_0j, ne_LD, ne_DD, Mk.d, cs_00, cs_01, cs_02, cs_10, cs_11, cs_12, cs_20, cs_21, cs_22]
    rfl
variable [Has DS "_law_step" 2 4 b_law_step]
theorem r_lstep (n : Nat) {M : Mk} (hM : M.ok) {s : Nat} (hs : s < M.am.n) : runF DS (n + 2) "_law_step" [M.d, nI s] = .ok (nI (M.am.f s)) := by
  have e : M.am.f s = M.step s := by
    show (if s < M.size then M.step s else 0) = _
    rw [if_pos (show s < M.size from hs)]
  rw [e]
  have h64 := Mk.size_le hM
  have hm := r_lmany (DS := DS) n hM
  rw [run_has (n + 1) _ rfl]
  cases M with
  | sums m a b f =>
    have h1 := hM.1
    have h3 := hM.2.2.1
    simp (disch := first | omega | with_reducible assumption | (simp only [List.length_cons, List.length_nil, List.length_append, List.length_map, List.length_range, Am.row_len]; omega)) only [b_law_step, v_c, v_g, v_v, v_bin, v_neg, v_cmp, v_chain, v_and, v_or, v_not, v_ix, v_sl, v_rev, v_tup, v_lst, v_call, v_bi, v_rng, v_srtSet, v_meth, v_isi, v_dnew, v_srtKey, vs_nil, vs_cons, vr_nil, vr_cons, vo_no, vo_so, vc_e, vc_own, vc_1, vc_2, vc_en, vc_zip, v_comp1, v_comp1c, v_comp2, x_pass, x_seq, x_frz, x_set, x_setO, x_unp, x_par, x_par3, x_iff, x_ret, x_retN, x_rai, x_exp, x_cont, x_for, x_whl, x_app, x_ext, x_pop0, x_setIx, own_s, kApp_L, kApp_I, kExt_L, kExt_I, kSet_L, kSet_I, kSet_T, kSet_K, R.bind_ok, R.fl_ok, R.nox_ok, then_kS, fl_kFor, then_rt, then_exc, toR_rt, toR_exc, asB_b, rd_val, rd_own, onx_s, List.getElem?_cons_zero, List.getElem?_cons_succ, List.set_cons_zero, List.set_cons_succ, List.map_cons, List.map_nil, List.cons_append, List.nil_append, List.replicate_succ, List.replicate_zero, Nat.reduceSub, Nat.sub_zero, cond_true, cond_false, cond_b1, cond_b2, Bool.not_true, Bool.not_false, List.length_cons, List.length_nil, Nat.zero_add, Nat.reduceAdd, b_nm, b_tup, bs_nil, bs_cons, b_some, frzE, own_I, own_L, own_T, own_K, n_add, n_mulL, n_mulR, n_sub, n_mod, n_div, n_lt, n_le, n_gt, n_ge, n_eq, n_ne, n_neg, ↓cmpr_map, ↓cmpA_map, ↓cmpA_range, cmpA_ok, cmpA_okc, cmpN_ok, cmpN_okc, cmpA_none, cmpN_none, gd_t, gd_k, r1_n, rng_t, rng_l, psk_ok, ix_t0, ix_t1, ix_t2, ix_t3, ix_t4, ix_m4, ix_m5, ix_dI, ix_lI, len_t, len_l, len_dI, len_lI, src_d, src_l, src_L, src_T, srcO_L, srcO_I, tup_l, tup_lI, tup_t, tup_dI, lst_dI, lst_lI, lst_t, fold_lI, fold_dI, sum_lI, cat_dI, tup1_n, tup0_n, lst0_n, papp_I, papp_L, fold_snoc, fold_set, pext_L, psetI_I, psetL_I, fold_l, fold_t, fold_l1, pss_l, pss_d, in_lI, in_dI, nin_lI, nin_dI, meOk_i, meOk_L, me_idx, sl_from, sl_to, plo_n, plo_j, isi_ni, isi_nb, isi_nt, isi_dt, isi_tt, isi_ss, all_b, any_b, eq_lI, eq_dI, ne_lI, ne_dI, int_b, min_n, max_n, mul_lI, cat_lI, sorted_I, eq_bb, ne_bb, map_dsnoc, sub_01, max_0j, ne_LD, ne_DD, Mk.d, cs_00, cs_01, cs_02, cs_10, cs_11, cs_12, cs_20, cs_21, cs_22]
    rfl
  | bits k t f =>
    have hk := hM.2.1
    have hti := hM.2.2.2.2.1
    have ht : ∀ j, j < k → pix (.tuple [nI 1, nI 2, nI 4, nI 8, nI 16, nI 32]) (nI j) = .ok (nI (2 ^ j)) := fun j hj => by
      have : j = 0 ∨ j = 1 ∨ j = 2 ∨ j = 3 ∨ j = 4 ∨ j = 5 := by omega
      rcases this with rfl | rfl | rfl | rfl | rfl | rfl <;> exact ix_t rfl
    simp only [Mk.d] at hm
    have hz : 0 < 2 ^ k := Nat.pow_pos (by decide)
    have hd : ∀ a, a < k → pbin .div (nI s) (nI (2 ^ a)) = .ok (nI (s / 2 ^ a)) := fun a ha => n_div _ _ (Nat.pow_pos (by decide)) (by
      have hpw : (2 : Nat) ^ a ≤ 2 ^ 6 := Nat.pow_le_pow_right (by decide) (by omega)
      omega)
    simp (disch := first | omega | with_reducible assumption | (simp only [List.length_cons, List.length_nil, List.length_append, List.length_map, List.length_range, Am.row_len]; omega)) only [b_law_step, v_c, v_g, v_v, v_bin, v_neg, v_cmp, v_chain, v_and, v_or, v_not, v_ix, v_sl, v_rev, v_tup, v_lst, v_call, v_bi, v_rng, v_srtSet, v_meth, v_isi, v_dnew, v_srtKey, vs_nil, vs_cons, vr_nil, vr_cons, vo_no, vo_so, vc_e, vc_own, vc_1, vc_2, vc_en, vc_zip, v_comp1, v_comp1c, v_comp2, x_pass, x_seq, x_frz, x_set, x_setO, x_unp, x_par, x_par3, x_iff, x_ret, x_retN, x_rai, x_exp, x_cont, x_for, x_whl, x_app, x_ext, x_pop0, x_setIx, own_s, kApp_L, kApp_I, kExt_L, kExt_I, kSet_L, kSet_I, kSet_T, kSet_K, R.bind_ok, R.fl_ok, R.nox_ok, then_kS, fl_kFor, then_rt, then_exc, toR_rt, toR_exc, asB_b, rd_val, rd_own, onx_s, List.getElem?_cons_zero, List.getElem?_cons_succ, List.set_cons_zero, List.set_cons_succ, List.map_cons, List.map_nil, List.cons_append, List.nil_append, List.replicate_succ, List.replicate_zero, Nat.reduceSub, Nat.sub_zero, cond_true, cond_false, cond_b1, cond_b2, Bool.not_true, Bool.not_false, List.length_cons, List.length_nil, Nat.zero_add, Nat.reduceAdd, b_nm, b_tup, bs_nil, bs_cons, b_some, frzE, own_I, own_L, own_T, own_K, n_add, n_mulL, n_mulR, n_sub, n_mod, n_div, n_lt, n_le, n_gt, n_ge, n_eq, n_ne, n_neg, ↓cmpr_map, ↓cmpA_map, ↓cmpA_range, cmpA_ok, cmpA_okc, cmpN_ok, cmpN_okc, cmpA_none, cmpN_none, gd_t, gd_k, r1_n, rng_t, rng_l, psk_ok, ix_t0, ix_t1, ix_t2, ix_t3, ix_t4, ix_m4, ix_m5, ix_dI, ix_lI, len_t, len_l, len_dI, len_lI, src_d, src_l, src_L, src_T, srcO_L, srcO_I, tup_l, tup_lI, tup_t, tup_dI, lst_dI, lst_lI, lst_t, fold_lI, fold_dI, sum_lI, cat_dI, tup1_n, tup0_n, lst0_n, papp_I, papp_L, fold_snoc, fold_set, pext_L, psetI_I, psetL_I, fold_l, fold_t, fold_l1, pss_l, pss_d, in_lI, in_dI, nin_lI, nin_dI, meOk_i, meOk_L, me_idx, sl_from, sl_to, plo_n, plo_j, isi_ni, isi_nb, isi_nt, isi_dt, isi_tt, isi_ss, all_b, any_b, eq_lI, eq_dI, ne_lI, ne_dI, int_b, min_n, max_n, mul_lI, cat_lI, sorted_I, eq_bb, ne_bb, map_dsnoc, sub_01, max_0j, ne_LD, ne_DD, Mk.d, cs_00, cs_01, cs_02, cs_10, cs_11, cs_12, cs_20, cs_21, cs_22, hm]
    rw [forS_fold1 (fun p => [.val (Mk.bits k t f).d, .val (nI s), .val (nI (Mk.odd p s)), lvL nI p]) ?_ fun q a ha _ _ => ?_]
    · simp (disch := first | omega | with_reducible assumption | (simp only [List.length_cons, List.length_nil, List.length_append, List.length_map, List.length_range, Am.row_len]; omega)) only [v_c, v_g, v_v, v_bin, v_neg, v_cmp, v_chain, v_and, v_or, v_not, v_ix, v_sl, v_rev, v_tup, v_lst, v_call, v_bi, v_rng, v_srtSet, v_meth, v_isi, v_dnew, v_srtKey, vs_nil, vs_cons, vr_nil, vr_cons, vo_no, vo_so, vc_e, vc_own, vc_1, vc_2, vc_en, vc_zip, v_comp1, v_comp1c, v_comp2, x_pass, x_seq, x_frz, x_set, x_setO, x_unp, x_par, x_par3, x_iff, x_ret, x_retN, x_rai, x_exp, x_cont, x_for, x_whl, x_app, x_ext, x_pop0, x_setIx, own_s, kApp_L, kApp_I, kExt_L, kExt_I, kSet_L, kSet_I, kSet_T, kSet_K, R.bind_ok, R.fl_ok, R.nox_ok, then_kS, fl_kFor, then_rt, then_exc, toR_rt, toR_exc, asB_b, rd_val, rd_own, onx_s, List.getElem?_cons_zero, List.getElem?_cons_succ, List.set_cons_zero, List.set_cons_succ, List.map_cons, List.map_nil, List.cons_append, List.nil_append, List.replicate_succ, List.replicate_zero, Nat.reduceSub, Nat.sub_zero, cond_true, cond_false, cond_b1, cond_b2, Bool.not_true, Bool.not_false, List.length_cons, List.length_nil, Nat.zero_add, Nat.reduceAdd, b_nm, b_tup, bs_nil, bs_cons, b_some, frzE, own_I, own_L, own_T, own_K, n_add, n_mulL, n_mulR, n_sub, n_mod, n_div, n_lt, n_le, n_gt, n_ge, n_eq, n_ne, n_neg, ↓cmpr_map, ↓cmpA_map, ↓cmpA_range, cmpA_ok, cmpA_okc, cmpN_ok, cmpN_okc, cmpA_none, cmpN_none, gd_t, gd_k, r1_n, rng_t, rng_l, psk_ok, ix_t0, ix_t1, ix_t2, ix_t3, ix_t4, ix_m4, ix_m5, ix_dI, ix_lI, len_t, len_l, len_dI, len_lI, src_d, src_l, src_L, src_T, srcO_L, srcO_I, tup_l, tup_lI, tup_t, tup_dI, lst_dI, lst_lI, lst_t, fold_lI, fold_dI, sum_lI, cat_dI, tup1_n, tup0_n, lst0_n, papp_I, papp_L, fold_snoc, fold_set, pext_L, psetI_I, psetL_I, fold_l, fold_t, fold_l1, pss_l, pss_d, in_lI, in_dI, nin_lI, nin_dI, meOk_i, meOk_L, me_idx, sl_from, sl_to, plo_n, plo_j, isi_ni, isi_nb, isi_nt, isi_dt, isi_tt, isi_ss, all_b, any_b, eq_lI, eq_dI, ne_lI, ne_dI, int_b, min_n, max_n, mul_lI, cat_lI, sorted_I, eq_bb, ne_bb, map_dsnoc, sub_01, max_0j, ne_LD, ne_DD, Mk.d, hm]
      show _ = R.ok (nI (2 * s % 2 ^ k + Mk.odd t s))
      rfl
    · rfl
    · have hak := hti a ha
      have e1 : (Mk.odd q s + s / 2 ^ a) % 2 = Mk.odd (q ++ [a]) s := by
        unfold Mk.odd
        rw [List.map_append, List.sum_append]
        show _ = (_ + ((s / 2 ^ a % 2) + 0)) % 2
        omega
      simp (disch := first | omega | with_reducible assumption | (simp only [List.length_cons, List.length_nil, List.length_append, List.length_map, List.length_range, Am.row_len]; omega)) only [v_c, v_g, v_v, v_bin, v_neg, v_cmp, v_chain, v_and, v_or, v_not, v_ix, v_sl, v_rev, v_tup, v_lst, v_call, v_bi, v_rng, v_srtSet, v_meth, v_isi, v_dnew, v_srtKey, vs_nil, vs_cons, vr_nil, vr_cons, vo_no, vo_so, vc_e, vc_own, vc_1, vc_2, vc_en, vc_zip, v_comp1, v_comp1c, v_comp2, x_pass, x_seq, x_frz, x_set, x_setO, x_unp, x_par, x_par3, x_iff, x_ret, x_retN, x_rai, x_exp, x_cont, x_for, x_whl, x_app, x_ext, x_pop0, x_setIx, own_s, kApp_L, kApp_I, kExt_L, kExt_I, kSet_L, kSet_I, kSet_T, kSet_K, R.bind_ok, R.fl_ok, R.nox_ok, then_kS, fl_kFor, then_rt, then_exc, toR_rt, toR_exc, asB_b, rd_val, rd_own, onx_s, List.getElem?_cons_zero, List.getElem?_cons_succ, List.set_cons_zero, List.set_cons_succ, List.map_cons, List.map_nil, List.cons_append, List.nil_append, List.replicate_succ, List.replicate_zero, Nat.reduceSub, Nat.sub_zero, cond_true, cond_false, cond_b1, cond_b2, Bool.not_true, Bool.not_false, List.length_cons, List.length_nil, Nat.zero_add, Nat.reduceAdd, b_nm, b_tup, bs_nil, bs_cons, b_some, frzE, own_I, own_L, own_T, own_K, n_add, n_mulL, n_mulR, n_sub, n_mod, n_div, n_lt, n_le, n_gt, n_ge, n_eq, n_ne, n_neg, ↓cmpr_map, ↓cmpA_map, ↓cmpA_range, cmpA_ok, cmpA_okc, cmpN_ok, cmpN_okc, cmpA_none, cmpN_none, gd_t, gd_k, r1_n, rng_t, rng_l, psk_ok, ix_t0, ix_t1, ix_t2, ix_t3, ix_t4, ix_m4, ix_m5, ix_dI, ix_lI, len_t, len_l, len_dI, len_lI, src_d, src_l, src_L, src_T, srcO_L, srcO_I, tup_l, tup_lI, tup_t, tup_dI, lst_dI, lst_lI, lst_t, fold_lI, fold_dI, sum_lI, cat_dI, tup1_n, tup0_n, lst0_n, papp_I, papp_L, fold_snoc, fold_set, pext_L, psetI_I, psetL_I, fold_l, fold_t, fold_l1, pss_l, pss_d, in_lI, in_dI, nin_lI, nin_dI, meOk_i, meOk_L, me_idx, sl_from, sl_to, plo_n, plo_j, isi_ni, isi_nb, isi_nt, isi_dt, isi_tt, isi_ss, all_b, any_b, eq_lI, eq_dI, ne_lI, ne_dI, int_b, min_n, max_n, mul_lI, cat_lI, sorted_I, eq_bb, ne_bb, map_dsnoc, sub_01, max_0j, ne_LD, ne_DD, ht, hd, e1, lvL_snoc]
  | table x y f =>
    have hs' : s < x.length := hs
    simp (disch := first | omega | with_reducible assumption | (simp only [List.length_cons, List.length_nil, List.length_append, List.length_map, List.length_range, Am.row_len]; omega)) only [b_law_step, v_c, v_g, v_v, v_bin, v_neg, v_cmp, v_chain, v_and, v_or, v_not, v_ix, v_sl, v_rev, v_tup, v_lst, v_call, v_bi, v_rng, v_srtSet, v_meth, v_isi, v_dnew, v_srtKey, vs_nil, vs_cons, vr_nil, vr_cons, vo_no, vo_so, vc_e, vc_own, vc_1, vc_2, vc_en, vc_zip, v_comp1, v_comp1c, v_comp2, x_pass, x_seq, x_frz, x_set, x_setO, x_unp, x_par, x_par3, x_iff, x_ret, x_retN, x_rai, x_exp, x_cont, x_for, x_whl, x_app, x_ext, x_pop0, x_setIx, own_s, kApp_L, kApp_I, kExt_L, kExt_I, kSet_L, kSet_I, kSet_T, kSet_K, R.bind_ok, R.fl_ok, R.nox_ok, then_kS, fl_kFor, then_rt, then_exc, toR_rt, toR_exc, asB_b, rd_val, rd_own, onx_s, List.getElem?_cons_zero, List.getElem?_cons_succ, List.set_cons_zero, List.set_cons_succ, List.map_cons, List.map_nil, List.cons_append, List.nil_append, List.replicate_succ, List.replicate_zero, Nat.reduceSub, Nat.sub_zero, cond_true, cond_false, cond_b1, cond_b2, Bool.not_true, Bool.not_false, List.length_cons, List.length_nil, Nat.zero_add, Nat.reduceAdd, b_nm, b_tup, bs_nil, bs_cons, b_some, frzE, own_I, own_L, own_T, own_K, n_add, n_mulL, n_mulR, n_sub, n_mod, n_div, n_lt, n_le, n_gt, n_ge, n_eq, n_ne, n_neg, ↓cmpr_map, ↓cmpA_map, ↓cmpA_range, cmpA_ok, cmpA_okc, cmpN_ok, cmpN_okc, cmpA_none, cmpN_none, gd_t, gd_k, r1_n, rng_t, rng_l, psk_ok, ix_t0, ix_t1, ix_t2, ix_t3, ix_t4, ix_m4, ix_m5, ix_dI, ix_lI, len_t, len_l, len_dI, len_lI, src_d, src_l, src_L, src_T, srcO_L, srcO_I, tup_l, tup_lI, tup_t, tup_dI, lst_dI, lst_lI, lst_t, fold_lI, fold_dI, sum_lI, cat_dI, tup1_n, tup0_n, lst0_n, papp_I, papp_L, fold_snoc, fold_set, pext_L, psetI_I, psetL_I, fold_l, fold_t, fold_l1, pss_l, pss_d, in_lI, in_dI, nin_lI, nin_dI, meOk_i, meOk_L, me_idx, sl_from, sl_to, plo_n, plo_j, isi_ni, isi_nb, isi_nt, isi_dt, isi_tt, isi_ss, all_b, any_b, eq_lI, eq_dI, ne_lI, ne_dI, int_b, min_n, max_n, mul_lI, cat_lI, sorted_I, eq_bb, ne_bb, map_dsnoc, sub_01, max_0j, ne_LD, ne_DD, Mk.d, cs_00, cs_01, cs_02, cs_10, cs_11, cs_12, cs_20, cs_21, cs_22]
    rfl
end
section
variable {DS : List Def} [Has DS "_law_face" 2 2 b_law_face]
theorem r_lface (n : Nat) {M : Mk} (hM : M.ok) {s : Nat} (hs : s < M.am.n) : runF DS (n + 1) "_law_face" [M.d, nI s] = .ok (nI (M.am.g s)) := by
  have e : M.am.g s = M.face s := by
    show (if s < M.size then M.face s else 0) = _
    rw [if_pos (show s < M.size from hs)]
  rw [e]
  have h64 := Mk.size_le hM
  rw [run_has n _ rfl]
  cases M with
  | sums m a b f =>
    have h1 := hM.1
    have h3 := hM.2.1
    have hs' : s < m := hs
    simp (disch := first | omega | with_reducible assumption | (simp only [List.length_cons, List.length_nil, List.length_append, List.length_map, List.length_range, Am.row_len]; omega)) only [b_law_face, v_c, v_g, v_v, v_bin, v_neg, v_cmp, v_chain, v_and, v_or, v_not, v_ix, v_sl, v_rev, v_tup, v_lst, v_call, v_bi, v_rng, v_srtSet, v_meth, v_isi, v_dnew, v_srtKey, vs_nil, vs_cons, vr_nil, vr_cons, vo_no, vo_so, vc_e, vc_own, vc_1, vc_2, vc_en, vc_zip, v_comp1, v_comp1c, v_comp2, x_pass, x_seq, x_frz, x_set, x_setO, x_unp, x_par, x_par3, x_iff, x_ret, x_retN, x_rai, x_exp, x_cont, x_for, x_whl, x_app, x_ext, x_pop0, x_setIx, own_s, kApp_L, kApp_I, kExt_L, kExt_I, kSet_L, kSet_I, kSet_T, kSet_K, R.bind_ok, R.fl_ok, R.nox_ok, then_kS, fl_kFor, then_rt, then_exc, toR_rt, toR_exc, asB_b, rd_val, rd_own, onx_s, List.getElem?_cons_zero, List.getElem?_cons_succ, List.set_cons_zero, List.set_cons_succ, List.map_cons, List.map_nil, List.cons_append, List.nil_append, List.replicate_succ, List.replicate_zero, Nat.reduceSub, Nat.sub_zero, cond_true, cond_false, cond_b1, cond_b2, Bool.not_true, Bool.not_false, List.length_cons, List.length_nil, Nat.zero_add, Nat.reduceAdd, b_nm, b_tup, bs_nil, bs_cons, b_some, frzE, own_I, own_L, own_T, own_K, n_add, n_mulL, n_mulR, n_sub, n_mod, n_div, n_lt, n_le, n_gt, n_ge, n_eq, n_ne, n_neg, ↓cmpr_map, ↓cmpA_map, ↓cmpA_range, cmpA_ok, cmpA_okc, cmpN_ok, cmpN_okc, cmpA_none, cmpN_none, gd_t, gd_k, r1_n, rng_t, rng_l, psk_ok, ix_t0, ix_t1, ix_t2, ix_t3, ix_t4, ix_m4, ix_m5, ix_dI, ix_lI, len_t, len_l, len_dI, len_lI, src_d, src_l, src_L, src_T, srcO_L, srcO_I, tup_l, tup_lI, tup_t, tup_dI, lst_dI, lst_lI, lst_t, fold_lI, fold_dI, sum_lI, cat_dI, tup1_n, tup0_n, lst0_n, papp_I, papp_L, fold_snoc, fold_set, pext_L, psetI_I, psetL_I, fold_l, fold_t, fold_l1, pss_l, pss_d, in_lI, in_dI, nin_lI, nin_dI, meOk_i, meOk_L, me_idx, sl_from, sl_to, plo_n, plo_j, isi_ni, isi_nb, isi_nt, isi_dt, isi_tt, isi_ss, all_b, any_b, eq_lI, eq_dI, ne_lI, ne_dI, int_b, min_n, max_n, mul_lI, cat_lI, sorted_I, eq_bb, ne_bb, map_dsnoc, sub_01, max_0j, ne_LD, ne_DD, Mk.d, cs_00, cs_01, cs_02, cs_10, cs_11, cs_12, cs_20, cs_21, cs_22, Mk.face]
  | bits k t f =>
    have := hM.2.2.2.2.2.1
    simp (disch := first | omega | with_reducible assumption | (simp only [List.length_cons, List.length_nil, List.length_append, List.length_map, List.length_range, Am.row_len]; omega)) only [b_law_face, v_c, v_g, v_v, v_bin, v_neg, v_cmp, v_chain, v_and, v_or, v_not, v_ix, v_sl, v_rev, v_tup, v_lst, v_call, v_bi, v_rng, v_srtSet, v_meth, v_isi, v_dnew, v_srtKey, vs_nil, vs_cons, vr_nil, vr_cons, vo_no, vo_so, vc_e, vc_own, vc_1, vc_2, vc_en, vc_zip, v_comp1, v_comp1c, v_comp2, x_pass, x_seq, x_frz, x_set, x_setO, x_unp, x_par, x_par3, x_iff, x_ret, x_retN, x_rai, x_exp, x_cont, x_for, x_whl, x_app, x_ext, x_pop0, x_setIx, own_s, kApp_L, kApp_I, kExt_L, kExt_I, kSet_L, kSet_I, kSet_T, kSet_K, R.bind_ok, R.fl_ok, R.nox_ok, then_kS, fl_kFor, then_rt, then_exc, toR_rt, toR_exc, asB_b, rd_val, rd_own, onx_s, List.getElem?_cons_zero, List.getElem?_cons_succ, List.set_cons_zero, List.set_cons_succ, List.map_cons, List.map_nil, List.cons_append, List.nil_append, List.replicate_succ, List.replicate_zero, Nat.reduceSub, Nat.sub_zero, cond_true, cond_false, cond_b1, cond_b2, Bool.not_true, Bool.not_false, List.length_cons, List.length_nil, Nat.zero_add, Nat.reduceAdd, b_nm, b_tup, bs_nil, bs_cons, b_some, frzE, own_I, own_L, own_T, own_K, n_add, n_mulL, n_mulR, n_sub, n_mod, n_div, n_lt, n_le, n_gt, n_ge, n_eq, n_ne, n_neg, ↓cmpr_map, ↓cmpA_map, ↓cmpA_range, cmpA_ok, cmpA_okc, cmpN_ok, cmpN_okc, cmpA_none, cmpN_none, gd_t, gd_k, r1_n, rng_t, rng_l, psk_ok, ix_t0, ix_t1, ix_t2, ix_t3, ix_t4, ix_m4, ix_m5, ix_dI, ix_lI, len_t, len_l, len_dI, len_lI, src_d, src_l, src_L, src_T, srcO_L, srcO_I, tup_l, tup_lI, tup_t, tup_dI, lst_dI, lst_lI, lst_t, fold_lI, fold_dI, sum_lI, cat_dI, tup1_n, tup0_n, lst0_n, papp_I, papp_L, fold_snoc, fold_set, pext_L, psetI_I, psetL_I, fold_l, fold_t, fold_l1, pss_l, pss_d, in_lI, in_dI, nin_lI, nin_dI, meOk_i, meOk_L, me_idx, sl_from, sl_to, plo_n, plo_j, isi_ni, isi_nb, isi_nt, isi_dt, isi_tt, isi_ss, all_b, any_b, eq_lI, eq_dI, ne_lI, ne_dI, int_b, min_n, max_n, mul_lI, cat_lI, sorted_I, eq_bb, ne_bb, map_dsnoc, sub_01, max_0j, ne_LD, ne_DD, Mk.d, cs_00, cs_01, cs_02, cs_10, cs_11, cs_12, cs_20, cs_21, cs_22, Mk.face]
  | table x y f =>
    have hs' : s < y.length := by rw [hM.2.2.1]; exact hs
    simp (disch := first | omega | with_reducible assumption | (simp only [List.length_cons, List.length_nil, List.length_append, List.length_map, List.length_range, Am.row_len]; omega)) only [b_law_face, v_c, v_g, v_v, v_bin, v_neg, v_cmp, v_chain, v_and, v_or, v_not, v_ix, v_sl, v_rev, v_tup, v_lst, v_call, v_bi, v_rng, v_srtSet, v_meth, v_isi, v_dnew, v_srtKey, vs_nil, vs_cons, vr_nil, vr_cons, vo_no, vo_so, vc_e, vc_own, vc_1, vc_2, vc_en, vc_zip, v_comp1, v_comp1c, v_comp2, x_pass, x_seq, x_frz, x_set, x_setO, x_unp, x_par, x_par3, x_iff, x_ret, x_retN, x_rai, x_exp, x_cont, x_for, x_whl, x_app, x_ext, x_pop0, x_setIx, own_s, kApp_L, kApp_I, kExt_L, kExt_I, kSet_L, kSet_I, kSet_T, kSet_K, R.bind_ok, R.fl_ok, R.nox_ok, then_kS, fl_kFor, then_rt, then_exc, toR_rt, toR_exc, asB_b, rd_val, rd_own, onx_s, List.getElem?_cons_zero, List.getElem?_cons_succ, List.set_cons_zero, List.set_cons_succ, List.map_cons, List.map_nil, List.cons_append, List.nil_append, List.replicate_succ, List.replicate_zero, Nat.reduceSub, Nat.sub_zero, cond_true, cond_false, cond_b1, cond_b2, Bool.not_true, Bool.not_false, List.length_cons, List.length_nil, Nat.zero_add, Nat.reduceAdd, b_nm, b_tup, bs_nil, bs_cons, b_some, frzE, own_I, own_L, own_T, own_K, n_add, n_mulL, n_mulR, n_sub, n_mod, n_div, n_lt, n_le, n_gt, n_ge, n_eq, n_ne, n_neg, ↓cmpr_map, ↓cmpA_map, ↓cmpA_range, cmpA_ok, cmpA_okc, cmpN_ok, cmpN_okc, cmpA_none, cmpN_none, gd_t, gd_k, r1_n, rng_t, rng_l, psk_ok, ix_t0, ix_t1, ix_t2, ix_t3, ix_t4, ix_m4, ix_m5, ix_dI, ix_lI, len_t, len_l, len_dI, len_lI, src_d, src_l, src_L, src_T, srcO_L, srcO_I, tup_l, tup_lI, tup_t, tup_dI, lst_dI, lst_lI, lst_t, fold_lI, fold_dI, sum_lI, cat_dI, tup1_n, tup0_n, lst0_n, papp_I, papp_L, fold_snoc, fold_set, pext_L, psetI_I, psetL_I, fold_l, fold_t, fold_l1, pss_l, pss_d, in_lI, in_dI, nin_lI, nin_dI, meOk_i, meOk_L, me_idx, sl_from, sl_to, plo_n, plo_j, isi_ni, isi_nb, isi_nt, isi_dt, isi_tt, isi_ss, all_b, any_b, eq_lI, eq_dI, ne_lI, ne_dI, int_b, min_n, max_n, mul_lI, cat_lI, sorted_I, eq_bb, ne_bb, map_dsnoc, sub_01, max_0j, ne_LD, ne_DD, Mk.d, cs_00, cs_01, cs_02, cs_10, cs_11, cs_12, cs_20, cs_21, cs_22, Mk.face]
end
section
variable {DS : List Def} [Has DS "_law_many" 1 1 b_law_many] [Has DS "_law_step" 2 4 b_law_step] [Has DS "_law_face" 2 2 b_law_face] [Has DS "_law_row" 3 5 b_law_row]
theorem r_lrow (n : Nat) {M : Mk} (hM : M.ok) {s : Nat} (hs : s < M.am.n) {k : Nat} (hk : k < 1000000) : runF DS (n + 3) "_law_row" [M.d, nI s, nI k] = .ok (dI (M.am.row s k)) := by
  have hA := Mk.am_ok hM
  rw [run_has (n + 2) _ rfl]
  simp (disch := first | omega | with_reducible assumption | (simp only [List.length_cons, List.length_nil, List.length_append, List.length_map, List.length_range, Am.row_len]; omega)) only [b_law_row, v_c, v_g, v_v, v_bin, v_neg, v_cmp, v_chain, v_and, v_or, v_not, v_ix, v_sl, v_rev, v_tup, v_lst, v_call, v_bi, v_rng, v_srtSet, v_meth, v_isi, v_dnew, v_srtKey, vs_nil, vs_cons, vr_nil, vr_cons, vo_no, vo_so, vc_e, vc_own, vc_1, vc_2, vc_en, vc_zip, v_comp1, v_comp1c, v_comp2, x_pass, x_seq, x_frz, x_set, x_setO, x_unp, x_par, x_par3, x_iff, x_ret, x_retN, x_rai, x_exp, x_cont, x_for, x_whl, x_app, x_ext, x_pop0, x_setIx, own_s, kApp_L, kApp_I, kExt_L, kExt_I, kSet_L, kSet_I, kSet_T, kSet_K, R.bind_ok, R.fl_ok, R.nox_ok, then_kS, fl_kFor, then_rt, then_exc, toR_rt, toR_exc, asB_b, rd_val, rd_own, onx_s, List.getElem?_cons_zero, List.getElem?_cons_succ, List.set_cons_zero, List.set_cons_succ, List.map_cons, List.map_nil, List.cons_append, List.nil_append, List.replicate_succ, List.replicate_zero, Nat.reduceSub, Nat.sub_zero, cond_true, cond_false, cond_b1, cond_b2, Bool.not_true, Bool.not_false, List.length_cons, List.length_nil, Nat.zero_add, Nat.reduceAdd, b_nm, b_tup, bs_nil, bs_cons, b_some, frzE, own_I, own_L, own_T, own_K, n_add, n_mulL, n_mulR, n_sub, n_mod, n_div, n_lt, n_le, n_gt, n_ge, n_eq, n_ne, n_neg, ↓cmpr_map, ↓cmpA_map, ↓cmpA_range, cmpA_ok, cmpA_okc, cmpN_ok, cmpN_okc, cmpA_none, cmpN_none, gd_t, gd_k, r1_n, rng_t, rng_l, psk_ok, ix_t0, ix_t1, ix_t2, ix_t3, ix_t4, ix_m4, ix_m5, ix_dI, ix_lI, len_t, len_l, len_dI, len_lI, src_d, src_l, src_L, src_T, srcO_L, srcO_I, tup_l, tup_lI, tup_t, tup_dI, lst_dI, lst_lI, lst_t, fold_lI, fold_dI, sum_lI, cat_dI, tup1_n, tup0_n, lst0_n, papp_I, papp_L, fold_snoc, fold_set, pext_L, psetI_I, psetL_I, fold_l, fold_t, fold_l1, pss_l, pss_d, in_lI, in_dI, nin_lI, nin_dI, meOk_i, meOk_L, me_idx, sl_from, sl_to, plo_n, plo_j, isi_ni, isi_nb, isi_nt, isi_dt, isi_tt, isi_ss, all_b, any_b, eq_lI, eq_dI, ne_lI, ne_dI, int_b, min_n, max_n, mul_lI, cat_lI, sorted_I, eq_bb, ne_bb, map_dsnoc, sub_01, max_0j, ne_LD, ne_DD]
  rw [forS_range (fun i => [.val M.d, .val (nI (M.am.go s i)), .val (nI k), .own (lI (M.am.row s i)), lv i]) ?_ fun i hi => ?_]
  · simp (disch := first | omega | with_reducible assumption | (simp only [List.length_cons, List.length_nil, List.length_append, List.length_map, List.length_range, Am.row_len]; omega)) only [v_c, v_g, v_v, v_bin, v_neg, v_cmp, v_chain, v_and, v_or, v_not, v_ix, v_sl, v_rev, v_tup, v_lst, v_call, v_bi, v_rng, v_srtSet, v_meth, v_isi, v_dnew, v_srtKey, vs_nil, vs_cons, vr_nil, vr_cons, vo_no, vo_so, vc_e, vc_own, vc_1, vc_2, vc_en, vc_zip, v_comp1, v_comp1c, v_comp2, x_pass, x_seq, x_frz, x_set, x_setO, x_unp, x_par, x_par3, x_iff, x_ret, x_retN, x_rai, x_exp, x_cont, x_for, x_whl, x_app, x_ext, x_pop0, x_setIx, own_s, kApp_L, kApp_I, kExt_L, kExt_I, kSet_L, kSet_I, kSet_T, kSet_K, R.bind_ok, R.fl_ok, R.nox_ok, then_kS, fl_kFor, then_rt, then_exc, toR_rt, toR_exc, asB_b, rd_val, rd_own, onx_s, List.getElem?_cons_zero, List.getElem?_cons_succ, List.set_cons_zero, List.set_cons_succ, List.map_cons, List.map_nil, List.cons_append, List.nil_append, List.replicate_succ, List.replicate_zero, Nat.reduceSub, Nat.sub_zero, cond_true, cond_false, cond_b1, cond_b2, Bool.not_true, Bool.not_false, List.length_cons, List.length_nil, Nat.zero_add, Nat.reduceAdd, b_nm, b_tup, bs_nil, bs_cons, b_some, frzE, own_I, own_L, own_T, own_K, n_add, n_mulL, n_mulR, n_sub, n_mod, n_div, n_lt, n_le, n_gt, n_ge, n_eq, n_ne, n_neg, ↓cmpr_map, ↓cmpA_map, ↓cmpA_range, cmpA_ok, cmpA_okc, cmpN_ok, cmpN_okc, cmpA_none, cmpN_none, gd_t, gd_k, r1_n, rng_t, rng_l, psk_ok, ix_t0, ix_t1, ix_t2, ix_t3, ix_t4, ix_m4, ix_m5, ix_dI, ix_lI, len_t, len_l, len_dI, len_lI, src_d, src_l, src_L, src_T, srcO_L, srcO_I, tup_l, tup_lI, tup_t, tup_dI, lst_dI, lst_lI, lst_t, fold_lI, fold_dI, sum_lI, cat_dI, tup1_n, tup0_n, lst0_n, papp_I, papp_L, fold_snoc, fold_set, pext_L, psetI_I, psetL_I, fold_l, fold_t, fold_l1, pss_l, pss_d, in_lI, in_dI, nin_lI, nin_dI, meOk_i, meOk_L, me_idx, sl_from, sl_to, plo_n, plo_j, isi_ni, isi_nb, isi_nt, isi_dt, isi_tt, isi_ss, all_b, any_b, eq_lI, eq_dI, ne_lI, ne_dI, int_b, min_n, max_n, mul_lI, cat_lI, sorted_I, eq_bb, ne_bb, map_dsnoc, sub_01, max_0j, ne_LD, ne_DD]
  · rfl
  · have hg := Am.go_lt hA hs i
    have hl := Am.row_len M.am i s
    simp (disch := first | omega | with_reducible assumption | (simp only [List.length_cons, List.length_nil, List.length_append, List.length_map, List.length_range, Am.row_len]; omega)) only [v_c, v_g, v_v, v_bin, v_neg, v_cmp, v_chain, v_and, v_or, v_not, v_ix, v_sl, v_rev, v_tup, v_lst, v_call, v_bi, v_rng, v_srtSet, v_meth, v_isi, v_dnew, v_srtKey, vs_nil, vs_cons, vr_nil, vr_cons, vo_no, vo_so, vc_e, vc_own, vc_1, vc_2, vc_en, vc_zip, v_comp1, v_comp1c, v_comp2, x_pass, x_seq, x_frz, x_set, x_setO, x_unp, x_par, x_par3, x_iff, x_ret, x_retN, x_rai, x_exp, x_cont, x_for, x_whl, x_app, x_ext, x_pop0, x_setIx, own_s, kApp_L, kApp_I, kExt_L, kExt_I, kSet_L, kSet_I, kSet_T, kSet_K, R.bind_ok, R.fl_ok, R.nox_ok, then_kS, fl_kFor, then_rt, then_exc, toR_rt, toR_exc, asB_b, rd_val, rd_own, onx_s, List.getElem?_cons_zero, List.getElem?_cons_succ, List.set_cons_zero, List.set_cons_succ, List.map_cons, List.map_nil, List.cons_append, List.nil_append, List.replicate_succ, List.replicate_zero, Nat.reduceSub, Nat.sub_zero, cond_true, cond_false, cond_b1, cond_b2, Bool.not_true, Bool.not_false, List.length_cons, List.length_nil, Nat.zero_add, Nat.reduceAdd, b_nm, b_tup, bs_nil, bs_cons, b_some, frzE, own_I, own_L, own_T, own_K, n_add, n_mulL, n_mulR, n_sub, n_mod, n_div, n_lt, n_le, n_gt, n_ge, n_eq, n_ne, n_neg, ↓cmpr_map, ↓cmpA_map, ↓cmpA_range, cmpA_ok, cmpA_okc, cmpN_ok, cmpN_okc, cmpA_none, cmpN_none, gd_t, gd_k, r1_n, rng_t, rng_l, psk_ok, ix_t0, ix_t1, ix_t2, ix_t3, ix_t4, ix_m4, ix_m5, ix_dI, ix_lI, len_t, len_l, len_dI, len_lI, src_d, src_l, src_L, src_T, srcO_L, srcO_I, tup_l, tup_lI, tup_t, tup_dI, lst_dI, lst_lI, lst_t, fold_lI, fold_dI, sum_lI, cat_dI, tup1_n, tup0_n, lst0_n, papp_I, papp_L, fold_snoc, fold_set, pext_L, psetI_I, psetL_I, fold_l, fold_t, fold_l1, pss_l, pss_d, in_lI, in_dI, nin_lI, nin_dI, meOk_i, meOk_L, me_idx, sl_from, sl_to, plo_n, plo_j, isi_ni, isi_nb, isi_nt, isi_dt, isi_tt, isi_ss, all_b, any_b, eq_lI, eq_dI, ne_lI, ne_dI, int_b, min_n, max_n, mul_lI, cat_lI, sorted_I, eq_bb, ne_bb, map_dsnoc, sub_01, max_0j, ne_LD, ne_DD, r_lstep, r_lface, ← Am.go_succ, ← Am.row_succ, Am.row_len]
    rfl
end
end Iv
end

section
namespace Iv
open PySem
def b_maker_bits : S := (.seq (.set 5 (.bin .add (.c (nI 1)) (.bin .mod (.v 4) (.ix (.tup (.cons (.c (nI 2)) (.cons (.c (nI 4)) (.cons (.c (nI 6)) .nil)))) (.bi .min (.cons (.c (nI 2)) (.cons (.bin .div (.v 1) (.c (nI 16))) .nil))))))) (.seq (.set 6 (.comp (.nm 7) (.r1 (.v 5)) (.so (.cmp .eq (.bin .mod (.bin .div (.v 4) (.ix (.tup (.cons (.c (nI 64)) (.cons (.c (nI 128)) (.cons (.c (nI 256)) (.cons (.c (nI 512)) (.cons (.c (nI 1024)) (.cons (.c (nI 2048)) .nil))))))) (.v 7))) (.c (nI 2))) (.c (nI 1)))) (.v 7) [7])) (.ret (.tup (.cons (.c (.str "bits")) (.cons (.v 5) (.cons (.bi .tuple (.cons (.bin .add (.v 6) (.bin .mul (.lst (.cons (.bin .sub (.v 5) (.c (nI 1))) .nil)) (.bi .int (.cons (.cmp .eq (.v 6) (.lst .nil)) .nil)))) .nil)) (.cons (.v 2) .nil))))))))
def b_maker_table : S := (.seq (.set 5 (.bin .add (.c (nI 1)) (.bin .mod (.v 4) (.v 1)))) (.seq (.set 8 (.bi .tuple (.cons (.comp (.nm 9) (.r1 (.v 5)) .no (.bin .mod (.bin .div (.call "_law_drawn" (.cons (.v 0) (.cons (.bin .add (.c (nI 10)) (.v 9)) .nil))) (.c (nI 16))) (.v 5)) [9]) .nil))) (.seq (.iff (.cmp .eq (.bin .mod (.bin .div (.v 4) (.c (nI 64))) (.c (nI 3))) (.c (nI 0))) (.set 8 (.bi .tuple (.cons (.srtKey (.v 5) 10 (.call "_law_drawn" (.cons (.v 0) (.cons (.bin .add (.c (nI 10)) (.v 10)) .nil)))) .nil))) .pass) (.seq (.set 11 (.bi .tuple (.cons (.comp (.nm 9) (.r1 (.v 5)) .no (.bin .mod (.bin .div (.call "_law_drawn" (.cons (.v 0) (.cons (.bin .add (.c (nI 90)) (.v 9)) .nil))) (.c (nI 16))) (.ix (.tup (.cons (.v 2) (.cons (.c (nI 2)) .nil))) (.bin .mod (.bin .div (.v 4) (.c (nI 256))) (.c (nI 2))))) [9]) .nil))) (.ret (.tup (.cons (.c (.str "table")) (.cons (.v 8) (.cons (.v 11) (.cons (.v 2) .nil))))))))))
def b_law_maker : S := (.seq (.set 2 (.bin .add (.c (nI 2)) (.bin .mod (.v 0) (.c (nI 5))))) (.seq (.set 3 (.bin .mod (.bin .div (.v 0) (.c (nI 8))) (.c (nI 3)))) (.seq (.set 4 (.bin .div (.call "_law_drawn" (.cons (.v 0) (.cons (.c (nI 1)) .nil))) (.c (nI 16)))) (.seq (.iff (.cmp .eq (.v 3) (.c (nI 0))) (.ret (.tup (.cons (.c (.str "sums")) (.cons (.bin .add (.c (nI 1)) (.bin .mod (.v 4) (.v 1))) (.cons (.bin .mod (.bin .div (.v 4) (.c (nI 64))) (.c (nI 64))) (.cons (.bin .mod (.bin .div (.v 4) (.c (nI 4096))) (.c (nI 64))) (.cons (.v 2) .nil))))))) .pass) (.seq (.iff (.cmp .eq (.v 3) (.c (nI 1))) b_maker_bits .pass) b_maker_table)))))
/-! ### the maker of a number -/
@[irreducible] def mkL (most : Nat) : Nat := if most < 16 then 2 else if most < 32 then 4 else 6
@[irreducible] def mkF (z : Nat) : Nat := 2 + z % 5
@[irreducible] def mkD (z : Nat) : Nat := drwN z 1 / 16
def mkK (z most : Nat) : Nat := 1 + mkD z % mkL most
def mkT0 (z most : Nat) : List Nat := (List.range (mkK z most)).filter fun j => decide (mkD z / (64 * 2 ^ j) % 2 = 1)
def mkT (z most : Nat) : List Nat := mkT0 z most ++ (List.replicate (bif leq (mkT0 z most) [] then 1 else 0) [mkK z most - 1]).flatten
def mkM1 (z most : Nat) : Nat := 1 + mkD z % most
def mkN (z most : Nat) : List Nat := if mkD z / 64 % 3 = 0 then srtN (mkM1 z most) (fun j => drwN z (10 + j)) else (List.range (mkM1 z most)).map fun j => drwN z (10 + j) / 16 % mkM1 z most
def mkQ (z : Nat) : Nat := if mkD z / 256 % 2 = 0 then mkF z else 2
def mkS (z most : Nat) : List Nat := (List.range (mkM1 z most)).map fun j => drwN z (90 + j) / 16 % mkQ z
@[irreducible] def mkM (z most : Nat) : Mk :=
  if z / 8 % 3 = 0 then .sums (mkM1 z most) (mkD z / 64 % 64) (mkD z / 4096 % 64) (mkF z)
  else if z / 8 % 3 = 1 then .bits (mkK z most) (mkT z most) (mkF z)
  else .table (mkN z most) (mkS z most) (mkF z)
theorem mkF_bd (z : Nat) : 2 ≤ mkF z ∧ mkF z ≤ 6 := by unfold mkF; omega
theorem mkL_bd (most : Nat) : 1 ≤ mkL most ∧ mkL most ≤ 6 := by unfold mkL; split; omega; split <;> omega
theorem mkK_bd (z most : Nat) : 1 ≤ mkK z most ∧ mkK z most ≤ mkL most := by
  have := mkL_bd most
  have := Nat.mod_lt (mkD z) (by omega : 0 < mkL most)
  unfold mkK; omega
theorem mkM1_bd (z : Nat) {most : Nat} (h : 1 ≤ most) : 1 ≤ mkM1 z most ∧ mkM1 z most ≤ most := by
  have := Nat.mod_lt (mkD z) (by omega : 0 < most)
  unfold mkM1; omega
theorem mkT_eq (z most : Nat) : mkT z most = if mkT0 z most = [] then [mkK z most - 1] else mkT0 z most := by
  unfold mkT
  split
  · rename_i h; rw [h]; rfl
  · rename_i h; rw [leq_f h]; simp
theorem mkM_ok (z : Nat) {most : Nat} (h1 : 1 ≤ most) (h2 : most ≤ 64) : (mkM z most).ok := by
  have hf := mkF_bd z
  have hk := mkK_bd z most
  have hl := mkL_bd most
  have hm := mkM1_bd z h1
  unfold mkM
  split
  · exact ⟨hm.1, by omega, Nat.mod_lt _ (by decide), Nat.mod_lt _ (by decide), hf.1, hf.2⟩
  · split
    · refine ⟨hk.1, by omega, ?_, ?_, ?_, hf.1, hf.2⟩
      · rw [mkT_eq]; split
        · exact List.cons_ne_nil _ _
        · assumption
      · rw [mkT_eq]; split
        · exact List.pairwise_singleton _ _
        · exact List.Pairwise.filter _ List.pairwise_lt_range
      · rw [mkT_eq]; split
        · intro t ht; rw [List.mem_singleton] at ht; omega
        · intro t ht; exact List.mem_range.mp (List.mem_filter.mp ht).1
    · have hn : (mkN z most).length = mkM1 z most := by
        unfold mkN; split
        · rw [(srtN_perm _ _).length_eq, List.length_range]
        · rw [List.length_map, List.length_range]
      have hs : (mkS z most).length = mkM1 z most := by unfold mkS; rw [List.length_map, List.length_range]
      refine ⟨by omega, by omega, by omega, ?_, ?_, hf.1, hf.2⟩
      · intro g hg
        rw [hn]
        unfold mkN at hg
        split at hg
        · exact List.mem_range.mp ((srtN_perm _ _).mem_iff.mp hg)
        · obtain ⟨j, _, rfl⟩ := List.mem_map.mp hg
          exact Nat.mod_lt _ (by omega)
      · intro g hg
        obtain ⟨j, _, rfl⟩ := List.mem_map.mp hg
        have hq : 0 < mkQ z ∧ mkQ z ≤ mkF z := by unfold mkQ; split <;> omega
        have := Nat.mod_lt (drwN z (90 + j) / 16) hq.1
        omega
/-- the most stands that there may be -/
def mkX (most : Nat) : Nat := max most (2 ^ mkL most)
theorem mkM_size (z : Nat) {most : Nat} (h1 : 1 ≤ most) : (mkM z most).size ≤ mkX most := by
  have hk := mkK_bd z most
  have hm := mkM1_bd z h1
  unfold mkM mkX
  split
  · show mkM1 z most ≤ _
    omega
  · split
    · show 2 ^ mkK z most ≤ _
      have := Nat.pow_le_pow_right (n := 2) (by decide) hk.2
      omega
    · show (mkN z most).length ≤ _
      have hn : (mkN z most).length = mkM1 z most := by
        unfold mkN; split
        · rw [(srtN_perm _ _).length_eq, List.length_range]
        · rw [List.length_map, List.length_range]
      omega

section
variable {F : Str → List PyData → R PyData} {z most : Nat} {x3 x5 x6 x7 x8 x9 x10 x11 : Slot}
theorem maker_bits (h1 : 1 ≤ most) (h2 : most ≤ 64) : ex F b_maker_bits [.val (nI z), .val (nI most), .val (nI (mkF z)), x3, .val (nI (mkD z)), x5, x6, x7, x8, x9, x10, x11] = .rt (Mk.bits (mkK z most) (mkT z most) (mkF z)).d := by
  have hf := mkF_bd z
  have hk := mkK_bd z most
  have hl := mkL_bd most
  have hb3 : pix (.tuple [nI 2, nI 4, nI 6]) (nI (min 2 (most / 16))) = .ok (nI (mkL most)) := by
    have : most / 16 = 0 ∨ most / 16 = 1 ∨ 2 ≤ most / 16 := by omega
    unfold mkL
    rcases this with h | h | h
    · rw [h, if_pos (by omega)]; exact ix_t rfl
    · rw [h, if_neg (by omega), if_pos (by omega)]; exact ix_t rfl
    · rw [Nat.min_eq_left h, if_neg (by omega), if_neg (by omega)]; exact ix_t rfl
  have hb6 : ∀ j, j < mkK z most → pix (.tuple [nI 64, nI 128, nI 256, nI 512, nI 1024, nI 2048]) (nI j) = .ok (nI (64 * 2 ^ j)) := fun j hj => by
    have : j = 0 ∨ j = 1 ∨ j = 2 ∨ j = 3 ∨ j = 4 ∨ j = 5 := by omega
    rcases this with rfl | rfl | rfl | rfl | rfl | rfl <;> exact ix_t rfl
  have hdv : ∀ j, j < mkK z most → pbin .div (nI (mkD z)) (nI (64 * 2 ^ j)) = .ok (nI (mkD z / (64 * 2 ^ j))) := fun j hj => by
    have hp : 0 < 2 ^ j := Nat.pow_pos (by decide)
    have hp2 : (2 : Nat) ^ j ≤ 2 ^ 6 := Nat.pow_le_pow_right (by decide) (by omega)
    exact n_div _ _ (by omega) (by omega)
  have eK : 1 + mkD z % mkL most = mkK z most := by unfold mkK; rfl
  have e0 : ((List.range (mkK z most)).filter fun a => decide (mkD z / (64 * 2 ^ a) % 2 = 1)) = mkT0 z most := by unfold mkT0; rfl
  have eT : mkT0 z most ++ (List.replicate (bif leq (mkT0 z most) [] then 1 else 0) [mkK z most - 1]).flatten = mkT z most := by unfold mkT; rfl
  have l0 : (mkT0 z most).length ≤ 6 := by
    unfold mkT0
    have := List.length_filter_le (fun a => decide (mkD z / (64 * 2 ^ a) % 2 = 1)) (List.range (mkK z most))
    rw [List.length_range] at this
    omega
  have l1 : (List.replicate (bif leq (mkT0 z most) [] then 1 else 0) [mkK z most - 1]).flatten.length ≤ 1 := by
    cases leq (mkT0 z most) [] <;> simp
  have k1 : (bif leq (mkT0 z most) [] then 1 else 0) ≤ 1000 := by
    cases leq (mkT0 z most) [] <;> simp
  simp +contextual (disch := first | omega | with_reducible assumption | (simp only [List.length_cons, List.length_nil, List.length_append, List.length_map, List.length_range, Am.row_len]; omega)) only [b_maker_bits, v_c, v_g, v_v, v_bin, v_neg, v_cmp, v_chain, v_and, v_or, v_not, v_ix, v_sl, v_rev, v_tup, v_lst, v_call, v_bi, v_rng, v_srtSet, v_meth, v_isi, v_dnew, v_srtKey, vs_nil, vs_cons, vr_nil, vr_cons, vo_no, vo_so, vc_e, vc_own, vc_1, vc_2, vc_en, vc_zip, v_comp1, v_comp1c, v_comp2, x_pass, x_seq, x_frz, x_set, x_setO, x_unp, x_par, x_par3, x_iff, x_ret, x_retN, x_rai, x_exp, x_cont, x_for, x_whl, x_app, x_ext, x_pop0, x_setIx, own_s, kApp_L, kApp_I, kExt_L, kExt_I, kSet_L, kSet_I, kSet_T, kSet_K, R.bind_ok, R.fl_ok, R.nox_ok, then_kS, fl_kFor, then_rt, then_exc, toR_rt, toR_exc, asB_b, rd_val, rd_own, onx_s, List.getElem?_cons_zero, List.getElem?_cons_succ, List.set_cons_zero, List.set_cons_succ, List.map_cons, List.map_nil, List.cons_append, List.nil_append, List.replicate_succ, List.replicate_zero, Nat.reduceSub, Nat.sub_zero, cond_true, cond_false, cond_b1, cond_b2, Bool.not_true, Bool.not_false, List.length_cons, List.length_nil, Nat.zero_add, Nat.reduceAdd, b_nm, b_tup, bs_nil, bs_cons, b_some, frzE, own_I, own_L, own_T, own_K, n_add, n_mulL, n_mulR, n_sub, n_mod, n_div, n_lt, n_le, n_gt, n_ge, n_eq, n_ne, n_neg, ↓cmpr_map, ↓cmpA_map, ↓cmpA_range, cmpA_ok, cmpA_okc, cmpN_ok, cmpN_okc, cmpA_none, cmpN_none, gd_t, gd_k, r1_n, rng_t, rng_l, psk_ok, ix_t0, ix_t1, ix_t2, ix_t3, ix_t4, ix_m4, ix_m5, ix_dI, ix_lI, len_t, len_l, len_dI, len_lI, src_d, src_l, src_L, src_T, srcO_L, srcO_I, tup_l, tup_lI, tup_t, tup_dI, lst_dI, lst_lI, lst_t, fold_lI, fold_dI, sum_lI, cat_dI, tup1_n, tup0_n, lst0_n, papp_I, papp_L, fold_snoc, fold_set, pext_L, psetI_I, psetL_I, fold_l, fold_t, fold_l1, pss_l, pss_d, in_lI, in_dI, nin_lI, nin_dI, meOk_i, meOk_L, me_idx, sl_from, sl_to, plo_n, plo_j, isi_ni, isi_nb, isi_nt, isi_dt, isi_tt, isi_ss, all_b, any_b, eq_lI, eq_dI, ne_lI, ne_dI, int_b, min_n, max_n, mul_lI, cat_lI, sorted_I, eq_bb, ne_bb, map_dsnoc, sub_01, max_0j, ne_LD, ne_DD, hb3, eK, hb6, hdv, e0, eT]
  rfl
theorem maker_table (hd : ∀ a b, F "_law_drawn" [nI a, nI b] = .ok (nI (drwN a b))) (h1 : 1 ≤ most) (h2 : most ≤ 64) : ex F b_maker_table [.val (nI z), .val (nI most), .val (nI (mkF z)), x3, .val (nI (mkD z)), x5, x6, x7, x8, x9, x10, x11] = .rt (Mk.table (mkN z most) (mkS z most) (mkF z)).d := by
  have hm := mkM1_bd z h1
  have hf := mkF_bd z
  have eM : 1 + mkD z % most = mkM1 z most := by unfold mkM1; rfl
  have hq : pix (.tuple [nI (mkF z), nI 2]) (nI (mkD z / 256 % 2)) = .ok (nI (mkQ z)) := by
    unfold mkQ
    have : mkD z / 256 % 2 = 0 ∨ mkD z / 256 % 2 = 1 := by omega
    rcases this with h | h
    · rw [h, if_pos rfl]; exact ix_t rfl
    · rw [h, if_neg (by decide)]; exact ix_t rfl
  have hq0 : 0 < mkQ z := by unfold mkQ; split <;> omega
  have eS : (List.range (mkM1 z most)).map (fun a => drwN z (90 + a) / 16 % mkQ z) = mkS z most := by unfold mkS; rfl
  by_cases q : mkD z / 64 % 3 = 0
  · have eN : srtN (mkM1 z most) (fun j => drwN z (10 + j)) = mkN z most := by unfold mkN; rw [if_pos q]
    simp (disch := first | omega | with_reducible assumption | (simp only [List.length_cons, List.length_nil, List.length_append, List.length_map, List.length_range, Am.row_len]; omega)) only [b_maker_table, v_c, v_g, v_v, v_bin, v_neg, v_cmp, v_chain, v_and, v_or, v_not, v_ix, v_sl, v_rev, v_tup, v_lst, v_call, v_bi, v_rng, v_srtSet, v_meth, v_isi, v_dnew, v_srtKey, vs_nil, vs_cons, vr_nil, vr_cons, vo_no, vo_so, vc_e, vc_own, vc_1, vc_2, vc_en, vc_zip, v_comp1, v_comp1c, v_comp2, x_pass, x_seq, x_frz, x_set, x_setO, x_unp, x_par, x_par3, x_iff, x_ret, x_retN, x_rai, x_exp, x_cont, x_for, x_whl, x_app, x_ext, x_pop0, x_setIx, own_s, kApp_L, kApp_I, kExt_L, kExt_I, kSet_L, kSet_I, kSet_T, kSet_K, R.bind_ok, R.fl_ok, R.nox_ok, then_kS, fl_kFor, then_rt, then_exc, toR_rt, toR_exc, asB_b, rd_val, rd_own, onx_s, List.getElem?_cons_zero, List.getElem?_cons_succ, List.set_cons_zero, List.set_cons_succ, List.map_cons, List.map_nil, List.cons_append, List.nil_append, List.replicate_succ, List.replicate_zero, Nat.reduceSub, Nat.sub_zero, cond_true, cond_false, cond_b1, cond_b2, Bool.not_true, Bool.not_false, List.length_cons, List.length_nil, Nat.zero_add, Nat.reduceAdd, b_nm, b_tup, bs_nil, bs_cons, b_some, frzE, own_I, own_L, own_T, own_K, n_add, n_mulL, n_mulR, n_sub, n_mod, n_div, n_lt, n_le, n_gt, n_ge, n_eq, n_ne, n_neg, ↓cmpr_map, ↓cmpA_map, ↓cmpA_range, cmpA_ok, cmpA_okc, cmpN_ok, cmpN_okc, cmpA_none, cmpN_none, gd_t, gd_k, r1_n, rng_t, rng_l, psk_ok, ix_t0, ix_t1, ix_t2, ix_t3, ix_t4, ix_m4, ix_m5, ix_dI, ix_lI, len_t, len_l, len_dI, len_lI, src_d, src_l, src_L, src_T, srcO_L, srcO_I, tup_l, tup_lI, tup_t, tup_dI, lst_dI, lst_lI, lst_t, fold_lI, fold_dI, sum_lI, cat_dI, tup1_n, tup0_n, lst0_n, papp_I, papp_L, fold_snoc, fold_set, pext_L, psetI_I, psetL_I, fold_l, fold_t, fold_l1, pss_l, pss_d, in_lI, in_dI, nin_lI, nin_dI, meOk_i, meOk_L, me_idx, sl_from, sl_to, plo_n, plo_j, isi_ni, isi_nb, isi_nt, isi_dt, isi_tt, isi_ss, all_b, any_b, eq_lI, eq_dI, ne_lI, ne_dI, int_b, min_n, max_n, mul_lI, cat_lI, sorted_I, eq_bb, ne_bb, map_dsnoc, sub_01, max_0j, ne_LD, ne_DD, hd, eM, hq, eS, decide_eq_true q, eN]
    rfl
  · have eN : (List.range (mkM1 z most)).map (fun j => drwN z (10 + j) / 16 % mkM1 z most) = mkN z most := by unfold mkN; rw [if_neg q]
    simp (disch := first | omega | with_reducible assumption | (simp only [List.length_cons, List.length_nil, List.length_append, List.length_map, List.length_range, Am.row_len]; omega)) only [b_maker_table, v_c, v_g, v_v, v_bin, v_neg, v_cmp, v_chain, v_and, v_or, v_not, v_ix, v_sl, v_rev, v_tup, v_lst, v_call, v_bi, v_rng, v_srtSet, v_meth, v_isi, v_dnew, v_srtKey, vs_nil, vs_cons, vr_nil, vr_cons, vo_no, vo_so, vc_e, vc_own, vc_1, vc_2, vc_en, vc_zip, v_comp1, v_comp1c, v_comp2, x_pass, x_seq, x_frz, x_set, x_setO, x_unp, x_par, x_par3, x_iff, x_ret, x_retN, x_rai, x_exp, x_cont, x_for, x_whl, x_app, x_ext, x_pop0, x_setIx, own_s, kApp_L, kApp_I, kExt_L, kExt_I, kSet_L, kSet_I, kSet_T, kSet_K, R.bind_ok, R.fl_ok, R.nox_ok, then_kS, fl_kFor, then_rt, then_exc, toR_rt, toR_exc, asB_b, rd_val, rd_own, onx_s, List.getElem?_cons_zero, List.getElem?_cons_succ, List.set_cons_zero, List.set_cons_succ, List.map_cons, List.map_nil, List.cons_append, List.nil_append, List.replicate_succ, List.replicate_zero, Nat.reduceSub, Nat.sub_zero, cond_true, cond_false, cond_b1, cond_b2, Bool.not_true, Bool.not_false, List.length_cons, List.length_nil, Nat.zero_add, Nat.reduceAdd, b_nm, b_tup, bs_nil, bs_cons, b_some, frzE, own_I, own_L, own_T, own_K, n_add, n_mulL, n_mulR, n_sub, n_mod, n_div, n_lt, n_le, n_gt, n_ge, n_eq, n_ne, n_neg, ↓cmpr_map, ↓cmpA_map, ↓cmpA_range, cmpA_ok, cmpA_okc, cmpN_ok, cmpN_okc, cmpA_none, cmpN_none, gd_t, gd_k, r1_n, rng_t, rng_l, psk_ok, ix_t0, ix_t1, ix_t2, ix_t3, ix_t4, ix_m4, ix_m5, ix_dI, ix_lI, len_t, len_l, len_dI, len_lI, src_d, src_l, src_L, src_T, srcO_L, srcO_I, tup_l, tup_lI, tup_t, tup_dI, lst_dI, lst_lI, lst_t, fold_lI, fold_dI, sum_lI, cat_dI, tup1_n, tup0_n, lst0_n, papp_I, papp_L, fold_snoc, fold_set, pext_L, psetI_I, psetL_I, fold_l, fold_t, fold_l1, pss_l, pss_d, in_lI, in_dI, nin_lI, nin_dI, meOk_i, meOk_L, me_idx, sl_from, sl_to, plo_n, plo_j, isi_ni, isi_nb, isi_nt, isi_dt, isi_tt, isi_ss, all_b, any_b, eq_lI, eq_dI, ne_lI, ne_dI, int_b, min_n, max_n, mul_lI, cat_lI, sorted_I, eq_bb, ne_bb, map_dsnoc, sub_01, max_0j, ne_LD, ne_DD, hd, eM, hq, eS, decide_eq_false q, eN]
    rfl
end
section
variable {DS : List Def} [Has DS "_law_drawn" 2 3 b_law_drawn] [Has DS "_law_maker" 2 12 b_law_maker]
theorem r_maker (n z : Nat) {most : Nat} (h1 : 1 ≤ most) (h2 : most ≤ 64) : runF DS (n + 2) "_law_maker" [nI z, nI most] = .ok (mkM z most).d := by
  rw [run_has (n + 1) _ rfl]
  have hm := mkM1_bd z h1
  have eD : drwN z 1 / 16 = mkD z := by unfold mkD; rfl
  have eF : 2 + z % 5 = mkF z := by unfold mkF; rfl
  have eM : 1 + mkD z % most = mkM1 z most := by unfold mkM1; rfl
  have hd : ∀ a b, runF DS (n + 1) "_law_drawn" [nI a, nI b] = .ok (nI (drwN a b)) := fun a b => r_ldrawn n a b
  simp (disch := first | omega | with_reducible assumption | (simp only [List.length_cons, List.length_nil, List.length_append, List.length_map, List.length_range, Am.row_len]; omega)) only [b_law_maker, v_c, v_g, v_v, v_bin, v_neg, v_cmp, v_chain, v_and, v_or, v_not, v_ix, v_sl, v_rev, v_tup, v_lst, v_call, v_bi, v_rng, v_srtSet, v_meth, v_isi, v_dnew, v_srtKey, vs_nil, vs_cons, vr_nil, vr_cons, vo_no, vo_so, vc_e, vc_own, vc_1, vc_2, vc_en, vc_zip, v_comp1, v_comp1c, v_comp2, x_pass, x_seq, x_frz, x_set, x_setO, x_unp, x_par, x_par3, x_iff, x_ret, x_retN, x_rai, x_exp, x_cont, x_for, x_whl, x_app, x_ext, x_pop0, x_setIx, own_s, kApp_L, kApp_I, kExt_L, kExt_I, kSet_L, kSet_I, kSet_T, kSet_K, R.bind_ok, R.fl_ok, R.nox_ok, then_kS, fl_kFor, then_rt, then_exc, toR_rt, toR_exc, asB_b, rd_val, rd_own, onx_s, List.getElem?_cons_zero, List.getElem?_cons_succ, List.set_cons_zero, List.set_cons_succ, List.map_cons, List.map_nil, List.cons_append, List.nil_append, List.replicate_succ, List.replicate_zero, Nat.reduceSub, Nat.sub_zero, cond_true, cond_false, cond_b1, cond_b2, Bool.not_true, Bool.not_false, List.length_cons, List.length_nil, Nat.zero_add, Nat.reduceAdd, b_nm, b_tup, bs_nil, bs_cons, b_some, frzE, own_I, own_L, own_T, own_K, n_add, n_mulL, n_mulR, n_sub, n_mod, n_div, n_lt, n_le, n_gt, n_ge, n_eq, n_ne, n_neg, ↓cmpr_map, ↓cmpA_map, ↓cmpA_range, cmpA_ok, cmpA_okc, cmpN_ok, cmpN_okc, cmpA_none, cmpN_none, gd_t, gd_k, r1_n, rng_t, rng_l, psk_ok, ix_t0, ix_t1, ix_t2, ix_t3, ix_t4, ix_m4, ix_m5, ix_dI, ix_lI, len_t, len_l, len_dI, len_lI, src_d, src_l, src_L, src_T, srcO_L, srcO_I, tup_l, tup_lI, tup_t, tup_dI, lst_dI, lst_lI, lst_t, fold_lI, fold_dI, sum_lI, cat_dI, tup1_n, tup0_n, lst0_n, papp_I, papp_L, fold_snoc, fold_set, pext_L, psetI_I, psetL_I, fold_l, fold_t, fold_l1, pss_l, pss_d, in_lI, in_dI, nin_lI, nin_dI, meOk_i, meOk_L, me_idx, sl_from, sl_to, plo_n, plo_j, isi_ni, isi_nb, isi_nt, isi_dt, isi_tt, isi_ss, all_b, any_b, eq_lI, eq_dI, ne_lI, ne_dI, int_b, min_n, max_n, mul_lI, cat_lI, sorted_I, eq_bb, ne_bb, map_dsnoc, sub_01, max_0j, ne_LD, ne_DD, hd, eD, eF]
  unfold mkM
  by_cases q0 : z / 8 % 3 = 0
  · simp (disch := first | omega | with_reducible assumption | (simp only [List.length_cons, List.length_nil, List.length_append, List.length_map, List.length_range, Am.row_len]; omega)) only [v_c, v_g, v_v, v_bin, v_neg, v_cmp, v_chain, v_and, v_or, v_not, v_ix, v_sl, v_rev, v_tup, v_lst, v_call, v_bi, v_rng, v_srtSet, v_meth, v_isi, v_dnew, v_srtKey, vs_nil, vs_cons, vr_nil, vr_cons, vo_no, vo_so, vc_e, vc_own, vc_1, vc_2, vc_en, vc_zip, v_comp1, v_comp1c, v_comp2, x_pass, x_seq, x_frz, x_set, x_setO, x_unp, x_par, x_par3, x_iff, x_ret, x_retN, x_rai, x_exp, x_cont, x_for, x_whl, x_app, x_ext, x_pop0, x_setIx, own_s, kApp_L, kApp_I, kExt_L, kExt_I, kSet_L, kSet_I, kSet_T, kSet_K, R.bind_ok, R.fl_ok, R.nox_ok, then_kS, fl_kFor, then_rt, then_exc, toR_rt, toR_exc, asB_b, rd_val, rd_own, onx_s, List.getElem?_cons_zero, List.getElem?_cons_succ, List.set_cons_zero, List.set_cons_succ, List.map_cons, List.map_nil, List.cons_append, List.nil_append, List.replicate_succ, List.replicate_zero, Nat.reduceSub, Nat.sub_zero, cond_true, cond_false, cond_b1, cond_b2, Bool.not_true, Bool.not_false, List.length_cons, List.length_nil, Nat.zero_add, Nat.reduceAdd, b_nm, b_tup, bs_nil, bs_cons, b_some, frzE, own_I, own_L, own_T, own_K, n_add, n_mulL, n_mulR, n_sub, n_mod, n_div, n_lt, n_le, n_gt, n_ge, n_eq, n_ne, n_neg, ↓cmpr_map, ↓cmpA_map, ↓cmpA_range, cmpA_ok, cmpA_okc, cmpN_ok, cmpN_okc, cmpA_none, cmpN_none, gd_t, gd_k, r1_n, rng_t, rng_l, psk_ok, ix_t0, ix_t1, ix_t2, ix_t3, ix_t4, ix_m4, ix_m5, ix_dI, ix_lI, len_t, len_l, len_dI, len_lI, src_d, src_l, src_L, src_T, srcO_L, srcO_I, tup_l, tup_lI, tup_t, tup_dI, lst_dI, lst_lI, lst_t, fold_lI, fold_dI, sum_lI, cat_dI, tup1_n, tup0_n, lst0_n, papp_I, papp_L, fold_snoc, fold_set, pext_L, psetI_I, psetL_I, fold_l, fold_t, fold_l1, pss_l, pss_d, in_lI, in_dI, nin_lI, nin_dI, meOk_i, meOk_L, me_idx, sl_from, sl_to, plo_n, plo_j, isi_ni, isi_nb, isi_nt, isi_dt, isi_tt, isi_ss, all_b, any_b, eq_lI, eq_dI, ne_lI, ne_dI, int_b, min_n, max_n, mul_lI, cat_lI, sorted_I, eq_bb, ne_bb, map_dsnoc, sub_01, max_0j, ne_LD, ne_DD, decide_eq_true q0, if_pos q0, eM]
    rfl
  · by_cases q1 : z / 8 % 3 = 1
    · simp (disch := first | omega | with_reducible assumption | (simp only [List.length_cons, List.length_nil, List.length_append, List.length_map, List.length_range, Am.row_len]; omega)) only [v_c, v_g, v_v, v_bin, v_neg, v_cmp, v_chain, v_and, v_or, v_not, v_ix, v_sl, v_rev, v_tup, v_lst, v_call, v_bi, v_rng, v_srtSet, v_meth, v_isi, v_dnew, v_srtKey, vs_nil, vs_cons, vr_nil, vr_cons, vo_no, vo_so, vc_e, vc_own, vc_1, vc_2, vc_en, vc_zip, v_comp1, v_comp1c, v_comp2, x_pass, x_seq, x_frz, x_set, x_setO, x_unp, x_par, x_par3, x_iff, x_ret, x_retN, x_rai, x_exp, x_cont, x_for, x_whl, x_app, x_ext, x_pop0, x_setIx, own_s, kApp_L, kApp_I, kExt_L, kExt_I, kSet_L, kSet_I, kSet_T, kSet_K, R.bind_ok, R.fl_ok, R.nox_ok, then_kS, fl_kFor, then_rt, then_exc, toR_rt, toR_exc, asB_b, rd_val, rd_own, onx_s, List.getElem?_cons_zero, List.getElem?_cons_succ, List.set_cons_zero, List.set_cons_succ, List.map_cons, List.map_nil, List.cons_append, List.nil_append, List.replicate_succ, List.replicate_zero, Nat.reduceSub, Nat.sub_zero, cond_true, cond_false, cond_b1, cond_b2, Bool.not_true, Bool.not_false, List.length_cons, List.length_nil, Nat.zero_add, Nat.reduceAdd, b_nm, b_tup, bs_nil, bs_cons, b_some, frzE, own_I, own_L, own_T, own_K, n_add, n_mulL, n_mulR, n_sub, n_mod, n_div, n_lt, n_le, n_gt, n_ge, n_eq, n_ne, n_neg, ↓cmpr_map, ↓cmpA_map, ↓cmpA_range, cmpA_ok, cmpA_okc, cmpN_ok, cmpN_okc, cmpA_none, cmpN_none, gd_t, gd_k, r1_n, rng_t, rng_l, psk_ok, ix_t0, ix_t1, ix_t2, ix_t3, ix_t4, ix_m4, ix_m5, ix_dI, ix_lI, len_t, len_l, len_dI, len_lI, src_d, src_l, src_L, src_T, srcO_L, srcO_I, tup_l, tup_lI, tup_t, tup_dI, lst_dI, lst_lI, lst_t, fold_lI, fold_dI, sum_lI, cat_dI, tup1_n, tup0_n, lst0_n, papp_I, papp_L, fold_snoc, fold_set, pext_L, psetI_I, psetL_I, fold_l, fold_t, fold_l1, pss_l, pss_d, in_lI, in_dI, nin_lI, nin_dI, meOk_i, meOk_L, me_idx, sl_from, sl_to, plo_n, plo_j, isi_ni, isi_nb, isi_nt, isi_dt, isi_tt, isi_ss, all_b, any_b, eq_lI, eq_dI, ne_lI, ne_dI, int_b, min_n, max_n, mul_lI, cat_lI, sorted_I, eq_bb, ne_bb, map_dsnoc, sub_01, max_0j, ne_LD, ne_DD, decide_eq_false q0, decide_eq_true q1, if_neg q0, if_pos q1, maker_bits]
    · simp (disch := first | omega | with_reducible assumption | (simp only [List.length_cons, List.length_nil, List.length_append, List.length_map, List.length_range, Am.row_len]; omega)) only [v_c, v_g, v_v, v_bin, v_neg, v_cmp, v_chain, v_and, v_or, v_not, v_ix, v_sl, v_rev, v_tup, v_lst, v_call, v_bi, v_rng, v_srtSet, v_meth, v_isi, v_dnew, v_srtKey, vs_nil, vs_cons, vr_nil, vr_cons, vo_no, vo_so, vc_e, vc_own, vc_1, vc_2, vc_en, vc_zip, v_comp1, v_comp1c, v_comp2, x_pass, x_seq, x_frz, x_set, x_setO, x_unp, x_par, x_par3, x_iff, x_ret, x_retN, x_rai, x_exp, x_cont, x_for, x_whl, x_app, x_ext, x_pop0, x_setIx, own_s, kApp_L, kApp_I, kExt_L, kExt_I, kSet_L, kSet_I, kSet_T, kSet_K, R.bind_ok, R.fl_ok, R.nox_ok, then_kS, fl_kFor, then_rt, then_exc, toR_rt, toR_exc, asB_b, rd_val, rd_own, onx_s, List.getElem?_cons_zero, List.getElem?_cons_succ, List.set_cons_zero, List.set_cons_succ, List.map_cons, List.map_nil, List.cons_append, List.nil_append, List.replicate_succ, List.replicate_zero, Nat.reduceSub, Nat.sub_zero, cond_true, cond_false, cond_b1, cond_b2, Bool.not_true, Bool.not_false, List.length_cons, List.length_nil, Nat.zero_add, Nat.reduceAdd, b_nm, b_tup, bs_nil, bs_cons, b_some, frzE, own_I, own_L, own_T, own_K, n_add, n_mulL, n_mulR, n_sub, n_mod, n_div, n_lt, n_le, n_gt, n_ge, n_eq, n_ne, n_neg, ↓cmpr_map, ↓cmpA_map, ↓cmpA_range, cmpA_ok, cmpA_okc, cmpN_ok, cmpN_okc, cmpA_none, cmpN_none, gd_t, gd_k, r1_n, rng_t, rng_l, psk_ok, ix_t0, ix_t1, ix_t2, ix_t3, ix_t4, ix_m4, ix_m5, ix_dI, ix_lI, len_t, len_l, len_dI, len_lI, src_d, src_l, src_L, src_T, srcO_L, srcO_I, tup_l, tup_lI, tup_t, tup_dI, lst_dI, lst_lI, lst_t, fold_lI, fold_dI, sum_lI, cat_dI, tup1_n, tup0_n, lst0_n, papp_I, papp_L, fold_snoc, fold_set, pext_L, psetI_I, psetL_I, fold_l, fold_t, fold_l1, pss_l, pss_d, in_lI, in_dI, nin_lI, nin_dI, meOk_i, meOk_L, me_idx, sl_from, sl_to, plo_n, plo_j, isi_ni, isi_nb, isi_nt, isi_dt, isi_tt, isi_ss, all_b, any_b, eq_lI, eq_dI, ne_lI, ne_dI, int_b, min_n, max_n, mul_lI, cat_lI, sorted_I, eq_bb, ne_bb, map_dsnoc, sub_01, max_0j, ne_LD, ne_DD, decide_eq_false q0, decide_eq_false q1, if_neg q0, if_neg q1, maker_table, hd]
end
end Iv
end

section
namespace Iv
open PySem
def b_is_whole : S := (.ret (.and (.isi (.v 0) .int) (.and (.not (.isi (.v 0) .bool)) (.chain .le .le (.v 1) (.v 0) (.v 2)))))
def b_are_sums : S := (.seq (.iff (.or (.cmp .ne (.bi .len (.cons (.v 0) .nil)) (.c (nI 5))) (.or (.not (.call "is_whole" (.cons (.ix (.v 0) (.c (nI 1))) (.cons (.c (nI 1)) (.cons (.g "MOST_STANDS" (nI 64)) .nil))))) (.not (.call "is_whole" (.cons (.ix (.v 0) (.c (nI 4))) (.cons (.g "LEAST_FACES" (nI 2)) (.cons (.g "MOST_FACES" (nI 6)) .nil))))))) (.ret (.c (.bool false))) .pass) (.ret (.and (.call "is_whole" (.cons (.ix (.v 0) (.c (nI 2))) (.cons (.c (nI 0)) (.cons (.bin .sub (.g "MOST_STANDS" (nI 64)) (.c (nI 1))) .nil)))) (.call "is_whole" (.cons (.ix (.v 0) (.c (nI 3))) (.cons (.c (nI 0)) (.cons (.bin .sub (.g "MOST_STANDS" (nI 64)) (.c (nI 1))) .nil)))))))
def b_are_bits : S := (.seq (.iff (.or (.cmp .ne (.bi .len (.cons (.v 0) .nil)) (.c (nI 4))) (.or (.not (.call "is_whole" (.cons (.ix (.v 0) (.c (nI 1))) (.cons (.c (nI 1)) (.cons (.g "MOST_BITS" (nI 6)) .nil))))) (.not (.call "is_whole" (.cons (.ix (.v 0) (.c (nI 3))) (.cons (.g "LEAST_FACES" (nI 2)) (.cons (.g "MOST_FACES" (nI 6)) .nil))))))) (.ret (.c (.bool false))) .pass) (.seq (.set 1 (.ix (.v 0) (.c (nI 2)))) (.seq (.iff (.or (.not (.isi (.v 1) .tuple)) (.or (.cmp .eq (.bi .len (.cons (.v 1) .nil)) (.c (nI 0))) (.not (.bi .all (.cons (.comp (.nm 2) (.e (.v 1)) .no (.call "is_whole" (.cons (.v 2) (.cons (.c (nI 0)) (.cons (.bin .sub (.ix (.v 0) (.c (nI 1))) (.c (nI 1))) .nil)))) [2]) .nil))))) (.ret (.c (.bool false))) .pass) (.ret (.bi .all (.cons (.comp (.tup (.cons (.nm 3) (.cons (.nm 4) .nil))) (.zip (.sl (.v 1) .no (.so (.neg (.c (nI 1))))) (.sl (.v 1) (.so (.c (nI 1))) .no)) .no (.cmp .lt (.v 3) (.v 4)) [3, 4]) .nil))))))
def b_is_table : S := (.seq (.iff (.or (.cmp .ne (.bi .len (.cons (.v 0) .nil)) (.c (nI 4))) (.not (.call "is_whole" (.cons (.ix (.v 0) (.c (nI 3))) (.cons (.g "LEAST_FACES" (nI 2)) (.cons (.g "MOST_FACES" (nI 6)) .nil)))))) (.ret (.c (.bool false))) .pass) (.seq (.iff (.or (.not (.isi (.ix (.v 0) (.c (nI 1))) .tuple)) (.not (.isi (.ix (.v 0) (.c (nI 2))) .tuple))) (.ret (.c (.bool false))) .pass) (.seq (.set 1 (.bi .len (.cons (.ix (.v 0) (.c (nI 1))) .nil))) (.seq (.iff (.or (.not (.chain .le .le (.c (nI 1)) (.v 1) (.g "MOST_STANDS" (nI 64)))) (.cmp .ne (.bi .len (.cons (.ix (.v 0) (.c (nI 2))) .nil)) (.v 1))) (.ret (.c (.bool false))) .pass) (.seq (.iff (.not (.bi .all (.cons (.comp (.nm 2) (.e (.ix (.v 0) (.c (nI 1)))) .no (.call "is_whole" (.cons (.v 2) (.cons (.c (nI 0)) (.cons (.bin .sub (.v 1) (.c (nI 1))) .nil)))) [2]) .nil))) (.ret (.c (.bool false))) .pass) (.ret (.bi .all (.cons (.comp (.nm 3) (.e (.ix (.v 0) (.c (nI 2)))) .no (.call "is_whole" (.cons (.v 3) (.cons (.c (nI 0)) (.cons (.bin .sub (.ix (.v 0) (.c (nI 3))) (.c (nI 1))) .nil)))) [3]) .nil))))))))
def b_is_maker : S := (.seq (.iff (.or (.not (.isi (.v 0) .tuple)) (.or (.cmp .eq (.bi .len (.cons (.v 0) .nil)) (.c (nI 0))) (.not (.isi (.ix (.v 0) (.c (nI 0))) .str)))) (.ret (.c (.bool false))) .pass) (.seq (.iff (.cmp .eq (.ix (.v 0) (.c (nI 0))) (.g "SUMS" (.str "sums"))) (.ret (.call "are_sums" (.cons (.v 0) .nil))) .pass) (.seq (.iff (.cmp .eq (.ix (.v 0) (.c (nI 0))) (.g "BITS" (.str "bits"))) (.ret (.call "are_bits" (.cons (.v 0) .nil))) .pass) (.ret (.and (.cmp .eq (.ix (.v 0) (.c (nI 0))) (.g "TABLE" (.str "table"))) (.call "is_table" (.cons (.v 0) .nil)))))))
theorem cut_init {l : List Nat} (h : l ≠ []) : psl (dI l) none (some (-((1 : Nat) : Int))) = .ok (dI l.dropLast) := by
  show R.ok (PyData.tuple (cutL (l.map nI) none (some (-1)))) = _
  unfold cutL dI
  congr 2
  have e : HT.sIx (l.map nI).length (l.map nI).length (some (-1)) = l.length - 1 := by
    unfold HT.sIx
    rw [List.length_map]
    show (if (-1 : Int) < 0 then ((-1 : Int) + (l.length : Int)).toNat else _) = _
    rw [if_pos (by decide)]
    omega
  rw [e]
  show List.take (l.length - 1 - 0) (List.drop 0 (l.map nI)) = _
  rw [List.drop_zero, Nat.sub_zero, List.dropLast_eq_take, List.map_take]
theorem cut_tail (l : List Nat) : psl (dI l) (some ((1 : Nat) : Int)) none = .ok (dI l.tail) := by
  show R.ok (PyData.tuple (cutL (l.map nI) (some 1) none)) = _
  unfold cutL dI
  congr 2
  have e : HT.sIx (l.map nI).length 0 (some 1) = min 1 l.length := by
    unfold HT.sIx
    rw [List.length_map]
    rfl
  rw [e]
  show List.take ((l.map nI).length - min 1 l.length) (List.drop (min 1 l.length) (l.map nI)) = _
  cases l with
  | nil => rfl
  | cons a r =>
    rw [List.length_cons, Nat.min_eq_left (by omega)]
    simp
    rw [List.take_of_length_le (by rw [List.length_map]; exact Nat.le_refl _)]
theorem zip_d (l l' : List Nat) : pzip (dI l) (dI l') = .ok ((l.zip l').map fun p => .tuple [nI p.1, nI p.2]) := by
  show R.ok ((l.map nI).zipWith (fun p q => PyData.tuple [p, q]) (l'.map nI)) = _
  rw [List.zipWith_map, List.zip, List.map_zipWith]
section
variable {DS : List Def} [Has DS "is_whole" 3 3 b_is_whole]
theorem r_is_whole (n a b c : Nat) : runF DS (n + 1) "is_whole" [nI a, nI b, nI c] = .ok (.bool (decide (b ≤ a) && decide (a ≤ c))) := by
  rw [run_has n _ rfl]
  simp only [b_is_whole, v_c, v_g, v_v, v_bin, v_neg, v_cmp, v_chain, v_and, v_or, v_not, v_ix, v_sl, v_rev, v_tup, v_lst, v_call, v_bi, v_rng, v_srtSet, v_meth, v_isi, v_dnew, v_srtKey, vs_nil, vs_cons, vr_nil, vr_cons, vo_no, vo_so, vc_e, vc_own, vc_1, vc_2, vc_en, vc_zip, v_comp1, v_comp1c, v_comp2, x_pass, x_seq, x_frz, x_set, x_setO, x_unp, x_par, x_par3, x_iff, x_ret, x_retN, x_rai, x_exp, x_cont, x_for, x_whl, x_app, x_ext, x_pop0, x_setIx, own_s, kApp_L, kApp_I, kExt_L, kExt_I, kSet_L, kSet_I, kSet_T, kSet_K, R.bind_ok, R.fl_ok, R.nox_ok, then_kS, fl_kFor, then_rt, then_exc, toR_rt, toR_exc, asB_b, rd_val, rd_own, onx_s, List.getElem?_cons_zero, List.getElem?_cons_succ, List.set_cons_zero, List.set_cons_succ, List.map_cons, List.map_nil, List.cons_append, List.nil_append, List.replicate_succ, List.replicate_zero, Nat.reduceSub, Nat.sub_zero, cond_true, cond_false, cond_b1, cond_b2, Bool.not_true, Bool.not_false, List.length_cons, List.length_nil, Nat.zero_add, Nat.reduceAdd, b_nm, b_tup, bs_nil, bs_cons, b_some, frzE, own_I, own_L, own_T, own_K, n_add, n_mulL, n_mulR, n_sub, n_mod, n_div, n_lt, n_le, n_gt, n_ge, n_eq, n_ne, n_neg, ↓cmpr_map, ↓cmpA_map, ↓cmpA_range, cmpA_ok, cmpA_okc, cmpN_ok, cmpN_okc, cmpA_none, cmpN_none, gd_t, gd_k, r1_n, rng_t, rng_l, psk_ok, ix_t0, ix_t1, ix_t2, ix_t3, ix_t4, ix_m4, ix_m5, ix_dI, ix_lI, len_t, len_l, len_dI, len_lI, src_d, src_l, src_L, src_T, srcO_L, srcO_I, tup_l, tup_lI, tup_t, tup_dI, lst_dI, lst_lI, lst_t, fold_lI, fold_dI, sum_lI, cat_dI, tup1_n, tup0_n, lst0_n, papp_I, papp_L, fold_snoc, fold_set, pext_L, psetI_I, psetL_I, fold_l, fold_t, fold_l1, pss_l, pss_d, in_lI, in_dI, nin_lI, nin_dI, meOk_i, meOk_L, me_idx, sl_from, sl_to, plo_n, plo_j, isi_ni, isi_nb, isi_nt, isi_dt, isi_tt, isi_ss, all_b, any_b, eq_lI, eq_dI, ne_lI, ne_dI, int_b, min_n, max_n, mul_lI, cat_lI, sorted_I, eq_bb, ne_bb, map_dsnoc, sub_01, max_0j, ne_LD, ne_DD, Bool.true_and]
variable [Has DS "are_sums" 1 1 b_are_sums] [Has DS "are_bits" 1 5 b_are_bits] [Has DS "is_table" 1 4 b_is_table] [Has DS "is_maker" 1 1 b_is_maker]
theorem pw_zip {l : List Nat} (h : l.Pairwise (· < ·)) : (l.dropLast.zip l.tail).all (fun p => decide (p.1 < p.2)) = true := by
  induction l with
  | nil => rfl
  | cons a r ih =>
    cases r with
    | nil => rfl
    | cons b r =>
      rw [List.pairwise_cons] at h
      rw [List.dropLast_cons₂, List.tail_cons, List.zip_cons_cons, List.all_cons, Bool.and_eq_true]
      exact ⟨decide_eq_true (h.1 b (.head _)), ih h.2⟩
theorem r_is_maker (n : Nat) {M : Mk} (hM : M.ok) : runF DS (n + 3) "is_maker" [M.d] = .ok (.bool true) := by
  rw [run_has (n + 2) _ rfl]
  cases M with
  | sums m a b f =>
    obtain ⟨h1, h2, h3, h4, h5, h6⟩ := hM
    have e : runF DS (n + 2) "are_sums" [.tuple [.str "sums", nI m, nI a, nI b, nI f]] = .ok (.bool true) := by
      rw [run_has (n + 1) _ rfl]
      simp (disch := first | omega | with_reducible assumption | (simp only [List.length_cons, List.length_nil, List.length_append, List.length_map, List.length_range, Am.row_len]; omega)) only [b_are_sums, v_c, v_g, v_v, v_bin, v_neg, v_cmp, v_chain, v_and, v_or, v_not, v_ix, v_sl, v_rev, v_tup, v_lst, v_call, v_bi, v_rng, v_srtSet, v_meth, v_isi, v_dnew, v_srtKey, vs_nil, vs_cons, vr_nil, vr_cons, vo_no, vo_so, vc_e, vc_own, vc_1, vc_2, vc_en, vc_zip, v_comp1, v_comp1c, v_comp2, x_pass, x_seq, x_frz, x_set, x_setO, x_unp, x_par, x_par3, x_iff, x_ret, x_retN, x_rai, x_exp, x_cont, x_for, x_whl, x_app, x_ext, x_pop0, x_setIx, own_s, kApp_L, kApp_I, kExt_L, kExt_I, kSet_L, kSet_I, kSet_T, kSet_K, R.bind_ok, R.fl_ok, R.nox_ok, then_kS, fl_kFor, then_rt, then_exc, toR_rt, toR_exc, asB_b, rd_val, rd_own, onx_s, List.getElem?_cons_zero, List.getElem?_cons_succ, List.set_cons_zero, List.set_cons_succ, List.map_cons, List.map_nil, List.cons_append, List.nil_append, List.replicate_succ, List.replicate_zero, Nat.reduceSub, Nat.sub_zero, cond_true, cond_false, cond_b1, cond_b2, Bool.not_true, Bool.not_false, List.length_cons, List.length_nil, Nat.zero_add, Nat.reduceAdd, b_nm, b_tup, bs_nil, bs_cons, b_some, frzE, own_I, own_L, own_T, own_K, n_add, n_mulL, n_mulR, n_sub, n_mod, n_div, n_lt, n_le, n_gt, n_ge, n_eq, n_ne, n_neg, ↓cmpr_map, ↓cmpA_map, ↓cmpA_range, cmpA_ok, cmpA_okc, cmpN_ok, cmpN_okc, cmpA_none, cmpN_none, gd_t, gd_k, r1_n, rng_t, rng_l, psk_ok, ix_t0, ix_t1, ix_t2, ix_t3, ix_t4, ix_m4, ix_m5, ix_dI, ix_lI, len_t, len_l, len_dI, len_lI, src_d, src_l, src_L, src_T, srcO_L, srcO_I, tup_l, tup_lI, tup_t, tup_dI, lst_dI, lst_lI, lst_t, fold_lI, fold_dI, sum_lI, cat_dI, tup1_n, tup0_n, lst0_n, papp_I, papp_L, fold_snoc, fold_set, pext_L, psetI_I, psetL_I, fold_l, fold_t, fold_l1, pss_l, pss_d, in_lI, in_dI, nin_lI, nin_dI, meOk_i, meOk_L, me_idx, sl_from, sl_to, plo_n, plo_j, isi_ni, isi_nb, isi_nt, isi_dt, isi_tt, isi_ss, all_b, any_b, eq_lI, eq_dI, ne_lI, ne_dI, int_b, min_n, max_n, mul_lI, cat_lI, sorted_I, eq_bb, ne_bb, map_dsnoc, sub_01, max_0j, ne_LD, ne_DD, r_is_whole, decide_true, decide_false, decide_eq_true, decide_eq_false, Bool.and_true, Bool.true_and, Bool.and_false, Bool.false_and, Bool.or_true, Bool.true_or, Bool.or_false, Bool.false_or, Bool.not_true, Bool.not_false]
    simp (disch := first | omega | with_reducible assumption | (simp only [List.length_cons, List.length_nil, List.length_append, List.length_map, List.length_range, Am.row_len]; omega)) only [b_is_maker, v_c, v_g, v_v, v_bin, v_neg, v_cmp, v_chain, v_and, v_or, v_not, v_ix, v_sl, v_rev, v_tup, v_lst, v_call, v_bi, v_rng, v_srtSet, v_meth, v_isi, v_dnew, v_srtKey, vs_nil, vs_cons, vr_nil, vr_cons, vo_no, vo_so, vc_e, vc_own, vc_1, vc_2, vc_en, vc_zip, v_comp1, v_comp1c, v_comp2, x_pass, x_seq, x_frz, x_set, x_setO, x_unp, x_par, x_par3, x_iff, x_ret, x_retN, x_rai, x_exp, x_cont, x_for, x_whl, x_app, x_ext, x_pop0, x_setIx, own_s, kApp_L, kApp_I, kExt_L, kExt_I, kSet_L, kSet_I, kSet_T, kSet_K, R.bind_ok, R.fl_ok, R.nox_ok, then_kS, fl_kFor, then_rt, then_exc, toR_rt, toR_exc, asB_b, rd_val, rd_own, onx_s, List.getElem?_cons_zero, List.getElem?_cons_succ, List.set_cons_zero, List.set_cons_succ, List.map_cons, List.map_nil, List.cons_append, List.nil_append, List.replicate_succ, List.replicate_zero, Nat.reduceSub, Nat.sub_zero, cond_true, cond_false, cond_b1, cond_b2, Bool.not_true, Bool.not_false, List.length_cons, List.length_nil, Nat.zero_add, Nat.reduceAdd, b_nm, b_tup, bs_nil, bs_cons, b_some, frzE, own_I, own_L, own_T, own_K, n_add, n_mulL, n_mulR, n_sub, n_mod, n_div, n_lt, n_le, n_gt, n_ge, n_eq, n_ne, n_neg, ↓cmpr_map, ↓cmpA_map, ↓cmpA_range, cmpA_ok, cmpA_okc, cmpN_ok, cmpN_okc, cmpA_none, cmpN_none, gd_t, gd_k, r1_n, rng_t, rng_l, psk_ok, ix_t0, ix_t1, ix_t2, ix_t3, ix_t4, ix_m4, ix_m5, ix_dI, ix_lI, len_t, len_l, len_dI, len_lI, src_d, src_l, src_L, src_T, srcO_L, srcO_I, tup_l, tup_lI, tup_t, tup_dI, lst_dI, lst_lI, lst_t, fold_lI, fold_dI, sum_lI, cat_dI, tup1_n, tup0_n, lst0_n, papp_I, papp_L, fold_snoc, fold_set, pext_L, psetI_I, psetL_I, fold_l, fold_t, fold_l1, pss_l, pss_d, in_lI, in_dI, nin_lI, nin_dI, meOk_i, meOk_L, me_idx, sl_from, sl_to, plo_n, plo_j, isi_ni, isi_nb, isi_nt, isi_dt, isi_tt, isi_ss, all_b, any_b, eq_lI, eq_dI, ne_lI, ne_dI, int_b, min_n, max_n, mul_lI, cat_lI, sorted_I, eq_bb, ne_bb, map_dsnoc, sub_01, max_0j, ne_LD, ne_DD, Mk.d, cs_00, cs_01, cs_02, cs_10, cs_11, cs_12, cs_20, cs_21, cs_22, e, decide_true, decide_false, decide_eq_true, decide_eq_false, Bool.and_true, Bool.true_and, Bool.and_false, Bool.false_and, Bool.or_true, Bool.true_or, Bool.or_false, Bool.false_or, Bool.not_true, Bool.not_false]
  | bits k t f =>
    obtain ⟨h1, h2, h3, h4, h5, h6, h7⟩ := hM
    have e : runF DS (n + 2) "are_bits" [.tuple [.str "bits", nI k, dI t, nI f]] = .ok (.bool true) := by
      rw [run_has (n + 1) _ rfl]
      have hl : t.length ≠ 0 := fun z => h3 (List.length_eq_zero_iff.mp z)
      have hlt : t.length < 1000000 := by
        have := inc_len t 0 h4 fun i hi => ⟨Nat.zero_le _, h5 i hi⟩
        omega
      have a1 : (t.all fun a => decide (a ≤ k - 1)) = true := List.all_eq_true.mpr fun a ha => by
        have := h5 a ha
        exact decide_eq_true (by omega)
      have hz : (t.dropLast.zip t.tail).length < 1000000 := by
        rw [List.length_zip, List.length_tail]
        omega
      simp +contextual (disch := first | omega | with_reducible assumption | (simp only [List.length_cons, List.length_nil, List.length_append, List.length_map, List.length_range, Am.row_len]; omega)) only [b_are_bits, v_c, v_g, v_v, v_bin, v_neg, v_cmp, v_chain, v_and, v_or, v_not, v_ix, v_sl, v_rev, v_tup, v_lst, v_call, v_bi, v_rng, v_srtSet, v_meth, v_isi, v_dnew, v_srtKey, vs_nil, vs_cons, vr_nil, vr_cons, vo_no, vo_so, vc_e, vc_own, vc_1, vc_2, vc_en, vc_zip, v_comp1, v_comp1c, v_comp2, x_pass, x_seq, x_frz, x_set, x_setO, x_unp, x_par, x_par3, x_iff, x_ret, x_retN, x_rai, x_exp, x_cont, x_for, x_whl, x_app, x_ext, x_pop0, x_setIx, own_s, kApp_L, kApp_I, kExt_L, kExt_I, kSet_L, kSet_I, kSet_T, kSet_K, R.bind_ok, R.fl_ok, R.nox_ok, then_kS, fl_kFor, then_rt, then_exc, toR_rt, toR_exc, asB_b, rd_val, rd_own, onx_s, List.getElem?_cons_zero, List.getElem?_cons_succ, List.set_cons_zero, List.set_cons_succ, List.map_cons, List.map_nil, List.cons_append, List.nil_append, List.replicate_succ, List.replicate_zero, Nat.reduceSub, Nat.sub_zero, cond_true, cond_false, cond_b1, cond_b2, Bool.not_true, Bool.not_false, List.length_cons, List.length_nil, Nat.zero_add, Nat.reduceAdd, b_nm, b_tup, bs_nil, bs_cons, b_some, frzE, own_I, own_L, own_T, own_K, n_add, n_mulL, n_mulR, n_sub, n_mod, n_div, n_lt, n_le, n_gt, n_ge, n_eq, n_ne, n_neg, ↓cmpr_map, ↓cmpA_map, ↓cmpA_range, cmpA_ok, cmpA_okc, cmpN_ok, cmpN_okc, cmpA_none, cmpN_none, gd_t, gd_k, r1_n, rng_t, rng_l, psk_ok, ix_t0, ix_t1, ix_t2, ix_t3, ix_t4, ix_m4, ix_m5, ix_dI, ix_lI, len_t, len_l, len_dI, len_lI, src_d, src_l, src_L, src_T, srcO_L, srcO_I, tup_l, tup_lI, tup_t, tup_dI, lst_dI, lst_lI, lst_t, fold_lI, fold_dI, sum_lI, cat_dI, tup1_n, tup0_n, lst0_n, papp_I, papp_L, fold_snoc, fold_set, pext_L, psetI_I, psetL_I, fold_l, fold_t, fold_l1, pss_l, pss_d, in_lI, in_dI, nin_lI, nin_dI, meOk_i, meOk_L, me_idx, sl_from, sl_to, plo_n, plo_j, isi_ni, isi_nb, isi_nt, isi_dt, isi_tt, isi_ss, all_b, any_b, eq_lI, eq_dI, ne_lI, ne_dI, int_b, min_n, max_n, mul_lI, cat_lI, sorted_I, eq_bb, ne_bb, map_dsnoc, sub_01, max_0j, ne_LD, ne_DD, r_is_whole, decide_true, decide_false, decide_eq_true, decide_eq_false, Bool.and_true, Bool.true_and, Bool.and_false, Bool.false_and, Bool.or_true, Bool.true_or, Bool.or_false, Bool.false_or, Bool.not_true, Bool.not_false, a1, plo_n, plo_j, cut_init, cut_tail, zip_d, pw_zip h4]
    simp (disch := first | omega | with_reducible assumption | (simp only [List.length_cons, List.length_nil, List.length_append, List.length_map, List.length_range, Am.row_len]; omega)) only [b_is_maker, v_c, v_g, v_v, v_bin, v_neg, v_cmp, v_chain, v_and, v_or, v_not, v_ix, v_sl, v_rev, v_tup, v_lst, v_call, v_bi, v_rng, v_srtSet, v_meth, v_isi, v_dnew, v_srtKey, vs_nil, vs_cons, vr_nil, vr_cons, vo_no, vo_so, vc_e, vc_own, vc_1, vc_2, vc_en, vc_zip, v_comp1, v_comp1c, v_comp2, x_pass, x_seq, x_frz, x_set, x_setO, x_unp, x_par, x_par3, x_iff, x_ret, x_retN, x_rai, x_exp, x_cont, x_for, x_whl, x_app, x_ext, x_pop0, x_setIx, own_s, kApp_L, kApp_I, kExt_L, kExt_I, kSet_L, kSet_I, kSet_T, kSet_K, R.bind_ok, R.fl_ok, R.nox_ok, then_kS, fl_kFor, then_rt, then_exc, toR_rt, toR_exc, asB_b, rd_val, rd_own, onx_s, List.getElem?_cons_zero, List.getElem?_cons_succ, List.set_cons_zero, List.set_cons_succ, List.map_cons, List.map_nil, List.cons_append, List.nil_append, List.replicate_succ, List.replicate_zero, Nat.reduceSub, Nat.sub_zero, cond_true, cond_false, cond_b1, cond_b2, Bool.not_true, Bool.not_false, List.length_cons, List.length_nil, Nat.zero_add, Nat.reduceAdd, b_nm, b_tup, bs_nil, bs_cons, b_some, frzE, own_I, own_L, own_T, own_K, n_add, n_mulL, n_mulR, n_sub, n_mod, n_div, n_lt, n_le, n_gt, n_ge, n_eq, n_ne, n_neg, ↓cmpr_map, ↓cmpA_map, ↓cmpA_range, cmpA_ok, cmpA_okc, cmpN_ok, cmpN_okc, cmpA_none, cmpN_none, gd_t, gd_k, r1_n, rng_t, rng_l, psk_ok, ix_t0, ix_t1, ix_t2, ix_t3, ix_t4, ix_m4, ix_m5, ix_dI, ix_lI, len_t, len_l, len_dI, len_lI, src_d, src_l, src_L, src_T, srcO_L, srcO_I, tup_l, tup_lI, tup_t, tup_dI, lst_dI, lst_lI, lst_t, fold_lI, fold_dI, sum_lI, cat_dI, tup1_n, tup0_n, lst0_n, papp_I, papp_L, fold_snoc, fold_set, pext_L, psetI_I, psetL_I, fold_l, fold_t, fold_l1, pss_l, pss_d, in_lI, in_dI, nin_lI, nin_dI, meOk_i, meOk_L, me_idx, sl_from, sl_to, plo_n, plo_j, isi_ni, isi_nb, isi_nt, isi_dt, isi_tt, isi_ss, all_b, any_b, eq_lI, eq_dI, ne_lI, ne_dI, int_b, min_n, max_n, mul_lI, cat_lI, sorted_I, eq_bb, ne_bb, map_dsnoc, sub_01, max_0j, ne_LD, ne_DD, Mk.d, cs_00, cs_01, cs_02, cs_10, cs_11, cs_12, cs_20, cs_21, cs_22, e, decide_true, decide_false, decide_eq_true, decide_eq_false, Bool.and_true, Bool.true_and, Bool.and_false, Bool.false_and, Bool.or_true, Bool.true_or, Bool.or_false, Bool.false_or, Bool.not_true, Bool.not_false]
  | table x y f =>
    obtain ⟨h1, h2, h3, h4, h5, h6, h7⟩ := hM
    have e : runF DS (n + 2) "is_table" [.tuple [.str "table", dI x, dI y, nI f]] = .ok (.bool true) := by
      rw [run_has (n + 1) _ rfl]
      have a1 : (x.all fun a => decide (a ≤ x.length - 1)) = true := List.all_eq_true.mpr fun a ha => by
        have := h4 a ha
        exact decide_eq_true (by omega)
      have a2 : (y.all fun a => decide (a ≤ f - 1)) = true := List.all_eq_true.mpr fun a ha => by
        have := h5 a ha
        exact decide_eq_true (by omega)
      simp +contextual (disch := first | omega | with_reducible assumption | (simp only [List.length_cons, List.length_nil, List.length_append, List.length_map, List.length_range, Am.row_len]; omega)) only [b_is_table, v_c, v_g, v_v, v_bin, v_neg, v_cmp, v_chain, v_and, v_or, v_not, v_ix, v_sl, v_rev, v_tup, v_lst, v_call, v_bi, v_rng, v_srtSet, v_meth, v_isi, v_dnew, v_srtKey, vs_nil, vs_cons, vr_nil, vr_cons, vo_no, vo_so, vc_e, vc_own, vc_1, vc_2, vc_en, vc_zip, v_comp1, v_comp1c, v_comp2, x_pass, x_seq, x_frz, x_set, x_setO, x_unp, x_par, x_par3, x_iff, x_ret, x_retN, x_rai, x_exp, x_cont, x_for, x_whl, x_app, x_ext, x_pop0, x_setIx, own_s, kApp_L, kApp_I, kExt_L, kExt_I, kSet_L, kSet_I, kSet_T, kSet_K, R.bind_ok, R.fl_ok, R.nox_ok, then_kS, fl_kFor, then_rt, then_exc, toR_rt, toR_exc, asB_b, rd_val, rd_own, onx_s, List.getElem?_cons_zero, List.getElem?_cons_succ, List.set_cons_zero, List.set_cons_succ, List.map_cons, List.map_nil, List.cons_append, List.nil_append, List.replicate_succ, List.replicate_zero, Nat.reduceSub, Nat.sub_zero, cond_true, cond_false, cond_b1, cond_b2, Bool.not_true, Bool.not_false, List.length_cons, List.length_nil, Nat.zero_add, Nat.reduceAdd, b_nm, b_tup, bs_nil, bs_cons, b_some, frzE, own_I, own_L, own_T, own_K, n_add, n_mulL, n_mulR, n_sub, n_mod, n_div, n_lt, n_le, n_gt, n_ge, n_eq, n_ne, n_neg, ↓cmpr_map, ↓cmpA_map, ↓cmpA_range, cmpA_ok, cmpA_okc, cmpN_ok, cmpN_okc, cmpA_none, cmpN_none, gd_t, gd_k, r1_n, rng_t, rng_l, psk_ok, ix_t0, ix_t1, ix_t2, ix_t3, ix_t4, ix_m4, ix_m5, ix_dI, ix_lI, len_t, len_l, len_dI, len_lI, src_d, src_l, src_L, src_T, srcO_L, srcO_I, tup_l, tup_lI, tup_t, tup_dI, lst_dI, lst_lI, lst_t, fold_lI, fold_dI, sum_lI, cat_dI, tup1_n, tup0_n, lst0_n, papp_I, papp_L, fold_snoc, fold_set, pext_L, psetI_I, psetL_I, fold_l, fold_t, fold_l1, pss_l, pss_d, in_lI, in_dI, nin_lI, nin_dI, meOk_i, meOk_L, me_idx, sl_from, sl_to, plo_n, plo_j, isi_ni, isi_nb, isi_nt, isi_dt, isi_tt, isi_ss, all_b, any_b, eq_lI, eq_dI, ne_lI, ne_dI, int_b, min_n, max_n, mul_lI, cat_lI, sorted_I, eq_bb, ne_bb, map_dsnoc, sub_01, max_0j, ne_LD, ne_DD, r_is_whole, decide_true, decide_false, decide_eq_true, decide_eq_false, Bool.and_true, Bool.true_and, Bool.and_false, Bool.false_and, Bool.or_true, Bool.true_or, Bool.or_false, Bool.false_or, Bool.not_true, Bool.not_false, a1, a2]
    simp (disch := first | omega | with_reducible assumption | (simp only [List.length_cons, List.length_nil, List.length_append, List.length_map, List.length_range, Am.row_len]; omega)) only [b_is_maker, v_c, v_g, v_v, v_bin, v_neg, v_cmp, v_chain, v_and, v_or, v_not, v_ix, v_sl, v_rev, v_tup, v_lst, v_call, v_bi, v_rng, v_srtSet, v_meth, v_isi, v_dnew, v_srtKey, vs_nil, vs_cons, vr_nil, vr_cons, vo_no, vo_so, vc_e, vc_own, vc_1, vc_2, vc_en, vc_zip, v_comp1, v_comp1c, v_comp2, x_pass, x_seq, x_frz, x_set, x_setO, x_unp, x_par, x_par3, x_iff, x_ret, x_retN, x_rai, x_exp, x_cont, x_for, x_whl, x_app, x_ext, x_pop0, x_setIx, own_s, kApp_L, kApp_I, kExt_L, kExt_I, kSet_L, kSet_I, kSet_T, kSet_K, R.bind_ok, R.fl_ok, R.nox_ok, then_kS, fl_kFor, then_rt, then_exc, toR_rt, toR_exc, asB_b, rd_val, rd_own, onx_s, List.getElem?_cons_zero, List.getElem?_cons_succ, List.set_cons_zero, List.set_cons_succ, List.map_cons, List.map_nil, List.cons_append, List.nil_append, List.replicate_succ, List.replicate_zero, Nat.reduceSub, Nat.sub_zero, cond_true, cond_false, cond_b1, cond_b2, Bool.not_true, Bool.not_false, List.length_cons, List.length_nil, Nat.zero_add, Nat.reduceAdd, b_nm, b_tup, bs_nil, bs_cons, b_some, frzE, own_I, own_L, own_T, own_K, n_add, n_mulL, n_mulR, n_sub, n_mod, n_div, n_lt, n_le, n_gt, n_ge, n_eq, n_ne, n_neg, ↓cmpr_map, ↓cmpA_map, ↓cmpA_range, cmpA_ok, cmpA_okc, cmpN_ok, cmpN_okc, cmpA_none, cmpN_none, gd_t, gd_k, r1_n, rng_t, rng_l, psk_ok, ix_t0, ix_t1, ix_t2, ix_t3, ix_t4, ix_m4, ix_m5, ix_dI, ix_lI, len_t, len_l, len_dI, len_lI, src_d, src_l, src_L, src_T, srcO_L, srcO_I, tup_l, tup_lI, tup_t, tup_dI, lst_dI, lst_lI, lst_t, fold_lI, fold_dI, sum_lI, cat_dI, tup1_n, tup0_n, lst0_n, papp_I, papp_L, fold_snoc, fold_set, pext_L, psetI_I, psetL_I, fold_l, fold_t, fold_l1, pss_l, pss_d, in_lI, in_dI, nin_lI, nin_dI, meOk_i, meOk_L, me_idx, sl_from, sl_to, plo_n, plo_j, isi_ni, isi_nb, isi_nt, isi_dt, isi_tt, isi_ss, all_b, any_b, eq_lI, eq_dI, ne_lI, ne_dI, int_b, min_n, max_n, mul_lI, cat_lI, sorted_I, eq_bb, ne_bb, map_dsnoc, sub_01, max_0j, ne_LD, ne_DD, Mk.d, cs_00, cs_01, cs_02, cs_10, cs_11, cs_12, cs_20, cs_21, cs_22, e, decide_true, decide_false, decide_eq_true, decide_eq_false, Bool.and_true, Bool.true_and, Bool.and_false, Bool.false_and, Bool.or_true, Bool.true_or, Bool.or_false, Bool.false_or, Bool.not_true, Bool.not_false]
end
theorem fold_tab (A : Am) : PyData.tuple [.str "table", dI ((List.range A.n).map A.f), dI ((List.range A.n).map A.g), nI A.k] = A.tab.d := Eq.trans rfl rfl
theorem lay_mk (M : Mk) : lay 64 M.d = true := by
  cases M with
  | sums m a b f => simp only [Mk.d, lay_tuple, lay_n, lay_str, so_sums, List.all_cons, List.all_nil, Bool.and_true]
  | bits k t f => simp only [Mk.d, lay_tuple, lay_n, lay_dI, lay_str, so_bits, List.all_cons, List.all_nil, Bool.and_true]
  | table x y f => simp only [Mk.d, lay_tuple, lay_n, lay_dI, lay_str, so_table, List.all_cons, List.all_nil, Bool.and_true]
theorem ne_mk (M : Mk) : pcmp .ne M.d M.d = .ok false := same_ne (lay_mk M)
theorem eq_mk (M : Mk) : pcmp .eq M.d M.d = .ok true := same_eq (lay_mk M)
end Iv
end

section
namespace Iv
open PySem
def b_from_stands : S := (.ret (.bi .tuple (.cons (.comp (.nm 2) (.r1 (.call "stands" (.cons (.v 0) .nil))) (.so (.cmp .eq (.call "drawn" (.cons (.v 0) (.cons (.v 2) (.cons (.bi .len (.cons (.v 1) .nil)) .nil)))) (.v 1))) (.v 2) [2]) .nil)))
def b_next_stands : S := (.ret (.bi .tuple (.cons (.srtSet (.comp (.nm 3) (.e (.v 1)) (.so (.cmp .eq (.call "face" (.cons (.v 0) (.cons (.v 3) .nil))) (.v 2))) (.call "step" (.cons (.v 0) (.cons (.v 3) .nil))) [3])) .nil)))
def b_at_stands : S := (.seq (.set 2 (.rng true (.call "stands" (.cons (.v 0) .nil)))) (.seq (.for_ (.nm 3) (.e (.v 1)) (.set 2 (.call "next_stands" (.cons (.v 0) (.cons (.v 2) (.cons (.v 3) .nil)))))) (.ret (.v 2))))
def b_may_come : S := (.ret (.bi .tuple (.cons (.srtSet (.comp (.nm 2) (.e (.call "at_stands" (.cons (.v 0) (.cons (.v 1) .nil)))) .no (.call "face" (.cons (.v 0) (.cons (.v 2) .nil))) [2])) .nil)))
section
variable {DS : List Def} [Has DS "power" 2 4 b_power] [Has DS "stands" 1 1 b_stands] [Has DS "step" 2 4 b_step] [Has DS "face" 2 2 b_face] [Has DS "drawn" 3 5 b_drawn] [Has DS "from_stands" 2 3 b_from_stands]
theorem r_from (n : Nat) {M : Mk} (hM : M.ok) {r : List Nat} (hr : r.length < 1000000) : runF DS (n + 5) "from_stands" [M.d, dI r] = .ok (dI (M.am.frm r)) := by
  have hA := (Mk.am_ok hM).le
  rw [run_has (n + 4) _ rfl]
  simp +contextual (disch := first | omega | with_reducible assumption | (simp only [List.length_cons, List.length_nil, List.length_append, List.length_map, List.length_range, Am.row_len]; omega)) only [b_from_stands, v_c, v_g, v_v, v_bin, v_neg, v_cmp, v_chain, v_and, v_or, v_not, v_ix, v_sl, v_rev, v_tup, v_lst, v_call, v_bi, v_rng, v_srtSet, v_meth, v_isi, v_dnew, v_srtKey, vs_nil, vs_cons, vr_nil, vr_cons, vo_no, vo_so, vc_e, vc_own, vc_1, vc_2, vc_en, vc_zip, v_comp1, v_comp1c, v_comp2, x_pass, x_seq, x_frz, x_set, x_setO, x_unp, x_par, x_par3, x_iff, x_ret, x_retN, x_rai, x_exp, x_cont, x_for, x_whl, x_app, x_ext, x_pop0, x_setIx, own_s, kApp_L, kApp_I, kExt_L, kExt_I, kSet_L, kSet_I, kSet_T, kSet_K, R.bind_ok, R.fl_ok, R.nox_ok, then_kS, fl_kFor, then_rt, then_exc, toR_rt, toR_exc, asB_b, rd_val, rd_own, onx_s, List.getElem?_cons_zero, List.getElem?_cons_succ, List.set_cons_zero, List.set_cons_succ, List.map_cons, List.map_nil, List.cons_append, List.nil_append, List.replicate_succ, List.replicate_zero, Nat.reduceSub, Nat.sub_zero, cond_true, cond_false, cond_b1, cond_b2, Bool.not_true, Bool.not_false, List.length_cons, List.length_nil, Nat.zero_add, Nat.reduceAdd, b_nm, b_tup, bs_nil, bs_cons, b_some, frzE, own_I, own_L, own_T, own_K, n_add, n_mulL, n_mulR, n_sub, n_mod, n_div, n_lt, n_le, n_gt, n_ge, n_eq, n_ne, n_neg, ↓cmpr_map, ↓cmpA_map, ↓cmpA_range, cmpA_ok, cmpA_okc, cmpN_ok, cmpN_okc, cmpA_none, cmpN_none, gd_t, gd_k, r1_n, rng_t, rng_l, psk_ok, ix_t0, ix_t1, ix_t2, ix_t3, ix_t4, ix_m4, ix_m5, ix_dI, ix_lI, len_t, len_l, len_dI, len_lI, src_d, src_l, src_L, src_T, srcO_L, srcO_I, tup_l, tup_lI, tup_t, tup_dI, lst_dI, lst_lI, lst_t, fold_lI, fold_dI, sum_lI, cat_dI, tup1_n, tup0_n, lst0_n, papp_I, papp_L, fold_snoc, fold_set, pext_L, psetI_I, psetL_I, fold_l, fold_t, fold_l1, pss_l, pss_d, in_lI, in_dI, nin_lI, nin_dI, meOk_i, meOk_L, me_idx, sl_from, sl_to, plo_n, plo_j, isi_ni, isi_nb, isi_nt, isi_dt, isi_tt, isi_ss, all_b, any_b, eq_lI, eq_dI, ne_lI, ne_dI, int_b, min_n, max_n, mul_lI, cat_lI, sorted_I, eq_bb, ne_bb, map_dsnoc, sub_01, max_0j, ne_LD, ne_DD, r_stands, r_drawn]
  rfl
end
section
variable {DS : List Def} [Has DS "power" 2 4 b_power] [Has DS "stands" 1 1 b_stands] [Has DS "step" 2 4 b_step] [Has DS "face" 2 2 b_face] [Has DS "next_stands" 3 4 b_next_stands]
theorem r_next (n : Nat) {M : Mk} (hM : M.ok) {l : List Nat} (hl : ∀ x ∈ l, x < M.am.n) (hk : l.length ≤ 4000) (c : Nat) : runF DS (n + 4) "next_stands" [M.d, dI l, nI c] = .ok (dI (M.am.nxt l c)) := by
  have e1 : ∀ x, x ∈ l → runF DS (n + 3) "face" [M.d, nI x] = .ok (nI (M.am.g x)) := fun x hx => r_face (n + 2) hM (hl x hx)
  have e2 : ∀ x, x ∈ l → runF DS (n + 3) "step" [M.d, nI x] = .ok (nI (M.am.f x)) := fun x hx => r_step n hM (hl x hx)
  have hl2 := List.length_filter_le (fun x => decide (M.am.g x = c)) l
  rw [run_has (n + 3) _ rfl]
  simp +contextual (disch := first | omega | with_reducible assumption | (simp only [List.length_cons, List.length_nil, List.length_append, List.length_map, List.length_range, Am.row_len]; omega)) only [b_next_stands, v_c, v_g, v_v, v_bin, v_neg, v_cmp, v_chain, v_and, v_or, v_not, v_ix, v_sl, v_rev, v_tup, v_lst, v_call, v_bi, v_rng, v_srtSet, v_meth, v_isi, v_dnew, v_srtKey, vs_nil, vs_cons, vr_nil, vr_cons, vo_no, vo_so, vc_e, vc_own, vc_1, vc_2, vc_en, vc_zip, v_comp1, v_comp1c, v_comp2, x_pass, x_seq, x_frz, x_set, x_setO, x_unp, x_par, x_par3, x_iff, x_ret, x_retN, x_rai, x_exp, x_cont, x_for, x_whl, x_app, x_ext, x_pop0, x_setIx, own_s, kApp_L, kApp_I, kExt_L, kExt_I, kSet_L, kSet_I, kSet_T, kSet_K, R.bind_ok, R.fl_ok, R.nox_ok, then_kS, fl_kFor, then_rt, then_exc, toR_rt, toR_exc, asB_b, rd_val, rd_own, onx_s, List.getElem?_cons_zero, List.getElem?_cons_succ, List.set_cons_zero, List.set_cons_succ, List.map_cons, List.map_nil, List.cons_append, List.nil_append, List.replicate_succ, List.replicate_zero, Nat.reduceSub, Nat.sub_zero, cond_true, cond_false, cond_b1, cond_b2, Bool.not_true, Bool.not_false, List.length_cons, List.length_nil, Nat.zero_add, Nat.reduceAdd, b_nm, b_tup, bs_nil, bs_cons, b_some, frzE, own_I, own_L, own_T, own_K, n_add, n_mulL, n_mulR, n_sub, n_mod, n_div, n_lt, n_le, n_gt, n_ge, n_eq, n_ne, n_neg, ↓cmpr_map, ↓cmpA_map, ↓cmpA_range, cmpA_ok, cmpA_okc, cmpN_ok, cmpN_okc, cmpA_none, cmpN_none, gd_t, gd_k, r1_n, rng_t, rng_l, psk_ok, ix_t0, ix_t1, ix_t2, ix_t3, ix_t4, ix_m4, ix_m5, ix_dI, ix_lI, len_t, len_l, len_dI, len_lI, src_d, src_l, src_L, src_T, srcO_L, srcO_I, tup_l, tup_lI, tup_t, tup_dI, lst_dI, lst_lI, lst_t, fold_lI, fold_dI, sum_lI, cat_dI, tup1_n, tup0_n, lst0_n, papp_I, papp_L, fold_snoc, fold_set, pext_L, psetI_I, psetL_I, fold_l, fold_t, fold_l1, pss_l, pss_d, in_lI, in_dI, nin_lI, nin_dI, meOk_i, meOk_L, me_idx, sl_from, sl_to, plo_n, plo_j, isi_ni, isi_nb, isi_nt, isi_dt, isi_tt, isi_ss, all_b, any_b, eq_lI, eq_dI, ne_lI, ne_dI, int_b, min_n, max_n, mul_lI, cat_lI, sorted_I, eq_bb, ne_bb, map_dsnoc, sub_01, max_0j, ne_LD, ne_DD, e1, e2]
  rfl
variable [Has DS "at_stands" 2 4 b_at_stands]
theorem r_at (n : Nat) {M : Mk} (hM : M.ok) {r : List Nat} : runF DS (n + 5) "at_stands" [M.d, dI r] = .ok (dI (M.am.ats r)) := by
  have hA := Mk.am_ok hM
  have h64 := hA.le
  rw [run_has (n + 4) _ rfl]
  simp (disch := first | omega | with_reducible assumption | (simp only [List.length_cons, List.length_nil, List.length_append, List.length_map, List.length_range, Am.row_len]; omega)) only [b_at_stands, v_c, v_g, v_v, v_bin, v_neg, v_cmp, v_chain, v_and, v_or, v_not, v_ix, v_sl, v_rev, v_tup, v_lst, v_call, v_bi, v_rng, v_srtSet, v_meth, v_isi, v_dnew, v_srtKey, vs_nil, vs_cons, vr_nil, vr_cons, vo_no, vo_so, vc_e, vc_own, vc_1, vc_2, vc_en, vc_zip, v_comp1, v_comp1c, v_comp2, x_pass, x_seq, x_frz, x_set, x_setO, x_unp, x_par, x_par3, x_iff, x_ret, x_retN, x_rai, x_exp, x_cont, x_for, x_whl, x_app, x_ext, x_pop0, x_setIx, own_s, kApp_L, kApp_I, kExt_L, kExt_I, kSet_L, kSet_I, kSet_T, kSet_K, R.bind_ok, R.fl_ok, R.nox_ok, then_kS, fl_kFor, then_rt, then_exc, toR_rt, toR_exc, asB_b, rd_val, rd_own, onx_s, List.getElem?_cons_zero, List.getElem?_cons_succ, List.set_cons_zero, List.set_cons_succ, List.map_cons, List.map_nil, List.cons_append, List.nil_append, List.replicate_succ, List.replicate_zero, Nat.reduceSub, Nat.sub_zero, cond_true, cond_false, cond_b1, cond_b2, Bool.not_true, Bool.not_false, List.length_cons, List.length_nil, Nat.zero_add, Nat.reduceAdd, b_nm, b_tup, bs_nil, bs_cons, b_some, frzE, own_I, own_L, own_T, own_K, n_add, n_mulL, n_mulR, n_sub, n_mod, n_div, n_lt, n_le, n_gt, n_ge, n_eq, n_ne, n_neg, ↓cmpr_map, ↓cmpA_map, ↓cmpA_range, cmpA_ok, cmpA_okc, cmpN_ok, cmpN_okc, cmpA_none, cmpN_none, gd_t, gd_k, r1_n, rng_t, rng_l, psk_ok, ix_t0, ix_t1, ix_t2, ix_t3, ix_t4, ix_m4, ix_m5, ix_dI, ix_lI, len_t, len_l, len_dI, len_lI, src_d, src_l, src_L, src_T, srcO_L, srcO_I, tup_l, tup_lI, tup_t, tup_dI, lst_dI, lst_lI, lst_t, fold_lI, fold_dI, sum_lI, cat_dI, tup1_n, tup0_n, lst0_n, papp_I, papp_L, fold_snoc, fold_set, pext_L, psetI_I, psetL_I, fold_l, fold_t, fold_l1, pss_l, pss_d, in_lI, in_dI, nin_lI, nin_dI, meOk_i, meOk_L, me_idx, sl_from, sl_to, plo_n, plo_j, isi_ni, isi_nb, isi_nt, isi_dt, isi_tt, isi_ss, all_b, any_b, eq_lI, eq_dI, ne_lI, ne_dI, int_b, min_n, max_n, mul_lI, cat_lI, sorted_I, eq_bb, ne_bb, map_dsnoc, sub_01, max_0j, ne_LD, ne_DD, r_stands]
  rw [forS_fold1 (fun p => [.val M.d, .val (dI r), .val (dI (M.am.ats p)), lvL nI p]) ?_ fun q a ha _ _ => ?_]
  · simp (disch := first | omega | with_reducible assumption | (simp only [List.length_cons, List.length_nil, List.length_append, List.length_map, List.length_range, Am.row_len]; omega)) only [v_c, v_g, v_v, v_bin, v_neg, v_cmp, v_chain, v_and, v_or, v_not, v_ix, v_sl, v_rev, v_tup, v_lst, v_call, v_bi, v_rng, v_srtSet, v_meth, v_isi, v_dnew, v_srtKey, vs_nil, vs_cons, vr_nil, vr_cons, vo_no, vo_so, vc_e, vc_own, vc_1, vc_2, vc_en, vc_zip, v_comp1, v_comp1c, v_comp2, x_pass, x_seq, x_frz, x_set, x_setO, x_unp, x_par, x_par3, x_iff, x_ret, x_retN, x_rai, x_exp, x_cont, x_for, x_whl, x_app, x_ext, x_pop0, x_setIx, own_s, kApp_L, kApp_I, kExt_L, kExt_I, kSet_L, kSet_I, kSet_T, kSet_K, R.bind_ok, R.fl_ok, R.nox_ok, then_kS, fl_kFor, then_rt, then_exc, toR_rt, toR_exc, asB_b, rd_val, rd_own, onx_s, List.getElem?_cons_zero, List.getElem?_cons_succ, List.set_cons_zero, List.set_cons_succ, List.map_cons, List.map_nil, List.cons_append, List.nil_append, List.replicate_succ, List.replicate_zero, Nat.reduceSub, Nat.sub_zero, cond_true, cond_false, cond_b1, cond_b2, Bool.not_true, Bool.not_false, List.length_cons, List.length_nil, Nat.zero_add, Nat.reduceAdd, b_nm, b_tup, bs_nil, bs_cons, b_some, frzE, own_I, own_L, own_T, own_K]
  · rfl
  · obtain ⟨g1, g2, g3⟩ := Am.ats_good hA q
    simp (disch := first | omega | with_reducible assumption | (simp only [List.length_cons, List.length_nil, List.length_append, List.length_map, List.length_range, Am.row_len]; omega)) only [v_c, v_g, v_v, v_bin, v_neg, v_cmp, v_chain, v_and, v_or, v_not, v_ix, v_sl, v_rev, v_tup, v_lst, v_call, v_bi, v_rng, v_srtSet, v_meth, v_isi, v_dnew, v_srtKey, vs_nil, vs_cons, vr_nil, vr_cons, vo_no, vo_so, vc_e, vc_own, vc_1, vc_2, vc_en, vc_zip, v_comp1, v_comp1c, v_comp2, x_pass, x_seq, x_frz, x_set, x_setO, x_unp, x_par, x_par3, x_iff, x_ret, x_retN, x_rai, x_exp, x_cont, x_for, x_whl, x_app, x_ext, x_pop0, x_setIx, own_s, kApp_L, kApp_I, kExt_L, kExt_I, kSet_L, kSet_I, kSet_T, kSet_K, R.bind_ok, R.fl_ok, R.nox_ok, then_kS, fl_kFor, then_rt, then_exc, toR_rt, toR_exc, asB_b, rd_val, rd_own, onx_s, List.getElem?_cons_zero, List.getElem?_cons_succ, List.set_cons_zero, List.set_cons_succ, List.map_cons, List.map_nil, List.cons_append, List.nil_append, List.replicate_succ, List.replicate_zero, Nat.reduceSub, Nat.sub_zero, cond_true, cond_false, cond_b1, cond_b2, Bool.not_true, Bool.not_false, List.length_cons, List.length_nil, Nat.zero_add, Nat.reduceAdd, b_nm, b_tup, bs_nil, bs_cons, b_some, frzE, own_I, own_L, own_T, own_K, n_add, n_mulL, n_mulR, n_sub, n_mod, n_div, n_lt, n_le, n_gt, n_ge, n_eq, n_ne, n_neg, ↓cmpr_map, ↓cmpA_map, ↓cmpA_range, cmpA_ok, cmpA_okc, cmpN_ok, cmpN_okc, cmpA_none, cmpN_none, gd_t, gd_k, r1_n, rng_t, rng_l, psk_ok, ix_t0, ix_t1, ix_t2, ix_t3, ix_t4, ix_m4, ix_m5, ix_dI, ix_lI, len_t, len_l, len_dI, len_lI, src_d, src_l, src_L, src_T, srcO_L, srcO_I, tup_l, tup_lI, tup_t, tup_dI, lst_dI, lst_lI, lst_t, fold_lI, fold_dI, sum_lI, cat_dI, tup1_n, tup0_n, lst0_n, papp_I, papp_L, fold_snoc, fold_set, pext_L, psetI_I, psetL_I, fold_l, fold_t, fold_l1, pss_l, pss_d, in_lI, in_dI, nin_lI, nin_dI, meOk_i, meOk_L, me_idx, sl_from, sl_to, plo_n, plo_j, isi_ni, isi_nb, isi_nt, isi_dt, isi_tt, isi_ss, all_b, any_b, eq_lI, eq_dI, ne_lI, ne_dI, int_b, min_n, max_n, mul_lI, cat_lI, sorted_I, eq_bb, ne_bb, map_dsnoc, sub_01, max_0j, ne_LD, ne_DD, r_next n hM g2, lvL_snoc, ← Am.ats_snoc]
variable [Has DS "may_come" 2 3 b_may_come]
theorem r_may (n : Nat) {M : Mk} (hM : M.ok) {r : List Nat} : runF DS (n + 6) "may_come" [M.d, dI r] = .ok (dI (M.am.may r)) := by
  have hA := Mk.am_ok hM
  have h64 := hA.le
  obtain ⟨g1, g2, g3⟩ := Am.ats_good hA r
  have e1 : ∀ x, x ∈ M.am.ats r → runF DS (n + 5) "face" [M.d, nI x] = .ok (nI (M.am.g x)) := fun x hx => r_face (n + 4) hM (g2 x hx)
  rw [run_has (n + 5) _ rfl]
  simp +contextual (disch := first | omega | with_reducible assumption | (simp only [List.length_cons, List.length_nil, List.length_append, List.length_map, List.length_range, Am.row_len]; omega)) only [b_may_come, v_c, v_g, v_v, v_bin, v_neg, v_cmp, v_chain, v_and, v_or, v_not, v_ix, v_sl, v_rev, v_tup, v_lst, v_call, v_bi, v_rng, v_srtSet, v_meth, v_isi, v_dnew, v_srtKey, vs_nil, vs_cons, vr_nil, vr_cons, vo_no, vo_so, vc_e, vc_own, vc_1, vc_2, vc_en, vc_zip, v_comp1, v_comp1c, v_comp2, x_pass, x_seq, x_frz, x_set, x_setO, x_unp, x_par, x_par3, x_iff, x_ret, x_retN, x_rai, x_exp, x_cont, x_for, x_whl, x_app, x_ext, x_pop0, x_setIx, own_s, kApp_L, kApp_I, kExt_L, kExt_I, kSet_L, kSet_I, kSet_T, kSet_K, R.bind_ok, R.fl_ok, R.nox_ok, then_kS, fl_kFor, then_rt, then_exc, toR_rt, toR_exc, asB_b, rd_val, rd_own, onx_s, List.getElem?_cons_zero, List.getElem?_cons_succ, List.set_cons_zero, List.set_cons_succ, List.map_cons, List.map_nil, List.cons_append, List.nil_append, List.replicate_succ, List.replicate_zero, Nat.reduceSub, Nat.sub_zero, cond_true, cond_false, cond_b1, cond_b2, Bool.not_true, Bool.not_false, List.length_cons, List.length_nil, Nat.zero_add, Nat.reduceAdd, b_nm, b_tup, bs_nil, bs_cons, b_some, frzE, own_I, own_L, own_T, own_K, n_add, n_mulL, n_mulR, n_sub, n_mod, n_div, n_lt, n_le, n_gt, n_ge, n_eq, n_ne, n_neg, ↓cmpr_map, ↓cmpA_map, ↓cmpA_range, cmpA_ok, cmpA_okc, cmpN_ok, cmpN_okc, cmpA_none, cmpN_none, gd_t, gd_k, r1_n, rng_t, rng_l, psk_ok, ix_t0, ix_t1, ix_t2, ix_t3, ix_t4, ix_m4, ix_m5, ix_dI, ix_lI, len_t, len_l, len_dI, len_lI, src_d, src_l, src_L, src_T, srcO_L, srcO_I, tup_l, tup_lI, tup_t, tup_dI, lst_dI, lst_lI, lst_t, fold_lI, fold_dI, sum_lI, cat_dI, tup1_n, tup0_n, lst0_n, papp_I, papp_L, fold_snoc, fold_set, pext_L, psetI_I, psetL_I, fold_l, fold_t, fold_l1, pss_l, pss_d, in_lI, in_dI, nin_lI, nin_dI, meOk_i, meOk_L, me_idx, sl_from, sl_to, plo_n, plo_j, isi_ni, isi_nb, isi_nt, isi_dt, isi_tt, isi_ss, all_b, any_b, eq_lI, eq_dI, ne_lI, ne_dI, int_b, min_n, max_n, mul_lI, cat_lI, sorted_I, eq_bb, ne_bb, map_dsnoc, sub_01, max_0j, ne_LD, ne_DD, r_at, e1]
  rfl
end
end Iv
end

section
/-! Ar: tails and rounds. -/
namespace Iv
theorem insN_len {x : Nat} : ∀ {l : List Nat}, x ∉ l → (insN x l).length = l.length + 1
  | [], _ => rfl
  | y :: r, h => by
    unfold insN
    split
    · rfl
    · split
      · rename_i e; subst e; exact (h (.head _)).elim
      · rw [List.length_cons, insN_len fun z => h (.tail _ z)]; rfl
theorem sset_len : ∀ {l : List Nat}, l.Nodup → (sset l).length = l.length
  | [], _ => rfl
  | y :: r, h => by
    rw [List.nodup_cons] at h
    show (insN y (sset r)).length = _
    rw [insN_len fun z => h.1 (mem_sset.mp z), sset_len h.2]; rfl
theorem nodup_len {l : List Nat} {n : Nat} (h : l.Nodup) (hl : ∀ x ∈ l, x < n) : l.length ≤ n := by
  rw [← sset_len h]
  have := inc_len (k := n) (sset l) 0 (sset_inc l) fun t ht => ⟨Nat.zero_le _, hl t (mem_sset.mp ht)⟩
  omega
namespace Am
variable (A : Am)
/-- so far from s on -/
def orb (s i : Nat) : List Nat := (List.range i).map (A.go s)
theorem mem_orb {s i x : Nat} : x ∈ A.orb s i ↔ ∃ j, j < i ∧ A.go s j = x := by
  unfold orb; rw [List.mem_map]
  exact ⟨fun ⟨j, h, e⟩ => ⟨j, List.mem_range.mp h, e⟩, fun ⟨j, h, e⟩ => ⟨j, List.mem_range.mpr h, e⟩⟩
theorem orb_succ (s i : Nat) : A.orb s (i + 1) = A.orb s i ++ [A.go s i] := by
  unfold orb; rw [List.range_succ, List.map_append]; rfl
theorem orb_len (s i : Nat) : (A.orb s i).length = i := by unfold orb; rw [List.length_map, List.length_range]
theorem orb_get {s T k : Nat} (hk : k < (A.orb s T).length) : (A.orb s T)[k] = A.go s k := by
  have hk' : k < T := by rw [A.orb_len] at hk; exact hk
  have : (A.orb s T)[k]? = some (A.go s k) := by
    unfold orb; rw [List.getElem?_map, List.getElem?_range hk']; rfl
  rw [List.getElem?_eq_getElem hk] at this
  exact Option.some.inj this
theorem orb_nodup {s : Nat} : ∀ i, (∀ j, j < i → A.go s j ∉ A.orb s j) → (A.orb s i).Nodup
  | 0, _ => List.nodup_nil
  | i + 1, h => by
    rw [orb_succ, List.nodup_append]
    refine ⟨orb_nodup i fun j hj => h j (by omega), List.pairwise_singleton _ _, fun a ha b hb e => ?_⟩
    rw [List.mem_singleton] at hb
    subst e hb
    exact h i (Nat.lt_succ_self i) ha
/-- where the walk from s ends: it comes again there, and no sooner -/
def Ends (s T : Nat) : Prop := A.go s T ∈ A.orb s T ∧ ∀ j, j < T → A.go s j ∉ A.orb s j
theorem ends_unique {s T T' : Nat} (h : A.Ends s T) (h' : A.Ends s T') : T = T' := by
  rcases Nat.lt_trichotomy T T' with z | z | z
  · exact (h'.2 T z h.1).elim
  · exact z
  · exact (h.2 T' z h'.1).elim
variable {A}
theorem ends_ex (h : A.Ok) {s : Nat} (hs : s < A.n) : ∃ T, T ≤ A.n ∧ A.go s T ∈ A.orb s T := by
  refine Classical.byContradiction fun no => ?_
  have nd := A.orb_nodup (s := s) (A.n + 1) fun j hj z => no ⟨j, by omega, z⟩
  have := nodup_len (n := A.n) nd fun x hx => by
    obtain ⟨j, _, rfl⟩ := A.mem_orb.mp hx
    exact go_lt h hs j
  rw [A.orb_len] at this
  omega
/-- the steps of the walk from s -/
noncomputable def len (A : Am) (s : Nat) : Nat := by
  classical
  exact if h : ∃ T, A.Ends s T then Classical.choose h else 0
theorem len_eq {s T : Nat} (h : A.Ends s T) : A.len s = T := by
  have hex : ∃ T, A.Ends s T := ⟨T, h⟩
  unfold len
  rw [dif_pos hex]
  exact A.ends_unique (Classical.choose_spec hex) h
theorem least_of {p : Nat → Prop} : ∀ {T : Nat}, p T → ∃ T', T' ≤ T ∧ p T' ∧ ∀ j, j < T' → ¬ p j := by
  intro T
  induction T using Nat.strongRecOn with
  | ind T ih =>
    intro hT
    by_cases q : ∃ j, j < T ∧ p j
    · obtain ⟨j, hj, hp⟩ := q
      obtain ⟨T', h1, h2, h3⟩ := ih j hj hp
      exact ⟨T', by omega, h2, h3⟩
    · exact ⟨T, Nat.le_refl _, hT, fun j hj hp => q ⟨j, hj, hp⟩⟩
theorem len_ends (h : A.Ok) {s : Nat} (hs : s < A.n) : A.Ends s (A.len s) ∧ A.len s ≤ A.n := by
  obtain ⟨T, h1, h2⟩ := ends_ex h hs
  obtain ⟨T', h3, h4, h5⟩ := least_of (p := fun T => A.go s T ∈ A.orb s T) h2
  have e := len_eq (A := A) (s := s) (T := T') ⟨h4, h5⟩
  rw [e]
  exact ⟨⟨h4, h5⟩, by omega⟩
/-- how many steps there are to the round; how long it is -/
noncomputable def tl (A : Am) (s : Nat) : Nat := (A.orb s (A.len s)).idxOf (A.go s (A.len s))
noncomputable def rd (A : Am) (s : Nat) : Nat := A.len s - A.tl s
/-- the round's stands -/
noncomputable def cyc (A : Am) (s : Nat) : List Nat := (A.orb s (A.len s)).drop (A.tl s)
structure Rho (A : Am) (s t r : Nat) : Prop where
  r1 : 1 ≤ r
  back : A.go s (t + r) = A.go s t
  inj : ∀ i j, i < t + r → j < t + r → A.go s i = A.go s j → i = j
theorem Rho.ends {s t r : Nat} (h : Rho A s t r) : A.Ends s (t + r) := by
  refine ⟨A.mem_orb.mpr ⟨t, by have := h.r1; omega, h.back.symm⟩, fun j hj z => ?_⟩
  obtain ⟨i, hi, e⟩ := A.mem_orb.mp z
  have := h.inj i j (by omega) hj e
  omega
theorem orb_idx {s T i : Nat} (hi : i < T) (inj : ∀ i j, i < T → j < T → A.go s i = A.go s j → i = j) : (A.orb s T).idxOf (A.go s i) = i := by
  have hm : A.go s i ∈ A.orb s T := A.mem_orb.mpr ⟨i, hi, rfl⟩
  have hl := List.idxOf_lt_length_of_mem hm
  rw [A.orb_len] at hl
  have hg := List.getElem_idxOf (x := A.go s i) (xs := A.orb s T) (by rw [A.orb_len]; exact hl)
  rw [A.orb_get] at hg
  exact inj _ _ hl hi hg
theorem Rho.eqs {s t r : Nat} (h : Rho A s t r) : A.len s = t + r ∧ A.tl s = t ∧ A.rd s = r := by
  have e := len_eq h.ends
  have e2 : A.tl s = t := by
    unfold tl
    rw [e, h.back, orb_idx (by have := h.r1; omega) h.inj]
  refine ⟨e, e2, ?_⟩
  unfold rd
  omega
theorem rho (h : A.Ok) {s : Nat} (hs : s < A.n) : Rho A s (A.tl s) (A.rd s) ∧ A.tl s + A.rd s ≤ A.n ∧ A.len s = A.tl s + A.rd s := by
  obtain ⟨he, hl⟩ := len_ends h hs
  have hm := List.idxOf_lt_length_of_mem he.1
  rw [A.orb_len] at hm
  have ht : A.tl s < A.len s := hm
  have e : A.len s = A.tl s + A.rd s := by unfold rd; omega
  have hg := List.getElem_idxOf (x := A.go s (A.len s)) (xs := A.orb s (A.len s)) (by rw [A.orb_len]; exact hm)
  have hb : A.go s (A.tl s) = A.go s (A.len s) := by
    rw [A.orb_get] at hg
    exact hg
  refine ⟨⟨by unfold rd; omega, by rw [← e]; exact hb.symm, ?_⟩, by omega, e⟩
  rw [← e]
  have nd := A.orb_nodup (A.len s) he.2
  intro i j hi hj q
  rcases Nat.lt_trichotomy i j with z | z | z
  · exact (he.2 j hj (A.mem_orb.mpr ⟨i, z, q⟩)).elim
  · exact z
  · exact (he.2 i hi (A.mem_orb.mpr ⟨j, z, q.symm⟩)).elim
/-! ### going round -/
theorem Rho.per {s t r : Nat} (h : Rho A s t r) : ∀ d, A.go s (t + d + r) = A.go s (t + d)
  | 0 => by rw [Nat.add_zero]; exact h.back
  | d + 1 => by
    have := Rho.per h d
    rw [show t + (d + 1) + r = (t + d + r) + 1 by omega, show t + (d + 1) = (t + d) + 1 by omega, A.go_succ, A.go_succ, this]
theorem Rho.mul {s t r : Nat} (h : Rho A s t r) (d : Nat) : ∀ k, A.go s (t + d + k * r) = A.go s (t + d)
  | 0 => by rw [Nat.zero_mul, Nat.add_zero]
  | k + 1 => by
    have := h.per (d + k * r)
    rw [show t + d + (k + 1) * r = t + (d + k * r) + r by rw [Nat.succ_mul]; omega, this, show t + (d + k * r) = t + d + k * r by omega, Rho.mul h d k]
theorem Rho.mod {s t r : Nat} (h : Rho A s t r) (d : Nat) : A.go s (t + d) = A.go s (t + d % r) := by
  have := h.mul (d % r) (d / r)
  rw [← this]
  congr 1
  have := Nat.mod_add_div d r
  rw [Nat.mul_comm] at this
  omega
theorem Rho.step {s t r : Nat} (h : Rho A s (t + 1) r) : Rho A (A.f s) t r := by
  have e : ∀ i, A.go (A.f s) i = A.go s (i + 1) := fun i => rfl
  refine ⟨h.r1, ?_, fun i j hi hj q => ?_⟩
  · rw [e, e, show t + r + 1 = t + 1 + r by omega]; exact h.back
  · rw [e, e] at q
    have := h.inj (i + 1) (j + 1) (by omega) (by omega) q
    omega
theorem Rho.round {s r : Nat} (h : Rho A s 0 r) : Rho A (A.f s) 0 r := by
  have e : ∀ i, A.go (A.f s) i = A.go s (i + 1) := fun i => rfl
  have hb : A.go s r = s := by have := h.back; rw [Nat.zero_add] at this; exact this
  have inj : ∀ i j, i < r → j < r → A.go s i = A.go s j → i = j := fun i j hi hj => h.inj i j (by omega) (by omega)
  refine ⟨h.r1, ?_, fun i j hi hj q => ?_⟩
  · rw [e, e, Nat.zero_add, Nat.zero_add, A.go_succ, hb]; rfl
  · rw [Nat.zero_add] at hi hj
    rw [e, e] at q
    by_cases h1 : i + 1 < r
    · by_cases h2 : j + 1 < r
      · have := inj _ _ h1 h2 q; omega
      · have e2 : j + 1 = r := by omega
        rw [e2, hb] at q
        have := inj (i + 1) 0 h1 (by omega) q; omega
    · have e1 : i + 1 = r := by omega
      by_cases h2 : j + 1 < r
      · rw [e1, hb] at q
        have := inj 0 (j + 1) (by omega) h2 q; omega
      · omega
theorem Rho.at_round {s t r : Nat} (h : Rho A s t r) : ∀ d, Rho A (A.go s (t + d)) 0 r := by
  have base : ∀ {t s : Nat}, Rho A s t r → Rho A (A.go s t) 0 r := by
    intro t
    induction t with
    | zero => exact fun h => h
    | succ t ih =>
      intro s h
      exact ih h.step
  intro d
  induction d with
  | zero => exact base h
  | succ d ih =>
    have := ih.round
    rw [show t + (d + 1) = (t + d) + 1 by omega, A.go_succ]
    exact this
theorem cyc_eq (h : A.Ok) {s : Nat} (hs : s < A.n) : A.cyc s = (List.range (A.rd s)).map fun i => A.go s (A.tl s + i) := by
  obtain ⟨_, _, e⟩ := rho h hs
  unfold cyc orb
  rw [e, List.range_eq_range', ← List.map_drop, List.drop_range', List.range_eq_range' (n := A.rd s)]
  rw [show A.tl s + A.rd s - A.tl s = A.rd s by omega]
  apply List.ext_getElem
  · simp
  · intro i h1 h2
    simp
end Am
end Iv
namespace Iv
namespace Am
variable {A : Am}
theorem cyc_len (h : A.Ok) {s : Nat} (hs : s < A.n) : (A.cyc s).length = A.rd s := by rw [cyc_eq h hs, List.length_map, List.length_range]
theorem mem_cyc (h : A.Ok) {s : Nat} (hs : s < A.n) {y : Nat} : y ∈ A.cyc s ↔ ∃ i, i < A.rd s ∧ A.go s (A.tl s + i) = y := by
  rw [cyc_eq h hs, List.mem_map]
  exact ⟨fun ⟨i, a, b⟩ => ⟨i, List.mem_range.mp a, b⟩, fun ⟨i, a, b⟩ => ⟨i, List.mem_range.mpr a, b⟩⟩
theorem cyc_lt (h : A.Ok) {s : Nat} (hs : s < A.n) : ∀ y ∈ A.cyc s, y < A.n := fun y hy => by
  obtain ⟨i, _, rfl⟩ := (mem_cyc h hs).mp hy
  exact go_lt h hs _
/-- those that stand in the round from s on -/
theorem cyc_in (h : A.Ok) {s : Nat} (hs : s < A.n) (h0 : A.tl s = 0) {y : Nat} (hy : y ∈ A.cyc s) : A.tl y = 0 ∧ A.rd y = A.rd s ∧ y < A.n ∧ s ∈ A.cyc y := by
  obtain ⟨i, hi, rfl⟩ := (mem_cyc h hs).mp hy
  have R := (rho h hs).1
  rw [h0] at R
  have R2 := R.at_round i
  have hlt := go_lt h hs (A.tl s + i)
  rw [h0] at hlt ⊢
  obtain ⟨_, e1, e2⟩ := R2.eqs
  refine ⟨e1, e2, hlt, (mem_cyc h hlt).mpr ?_⟩
  rw [e1, e2]
  refine ⟨(A.rd s - i) % A.rd s, Nat.mod_lt _ (by have := R.r1; omega), ?_⟩
  have hb : A.go s (A.rd s) = s := by have := R.back; rw [Nat.zero_add] at this; exact this
  rw [← R2.mod, ← A.go_add, show 0 + i + (0 + (A.rd s - i)) = A.rd s by omega, hb]
theorem self_cyc (h : A.Ok) {s : Nat} (hs : s < A.n) (h0 : A.tl s = 0) : s ∈ A.cyc s := by
  have R := (rho h hs).1
  refine (mem_cyc h hs).mpr ⟨0, R.r1, ?_⟩
  rw [h0]; rfl
theorem cyc_trans (h : A.Ok) {s y z : Nat} (hs : s < A.n) (h0 : A.tl s = 0) (hy : y ∈ A.cyc s) (hz : z ∈ A.cyc y) : z ∈ A.cyc s := by
  obtain ⟨e1, e2, hyn, _⟩ := cyc_in h hs h0 hy
  obtain ⟨i, hi, rfl⟩ := (mem_cyc h hs).mp hy
  obtain ⟨j, hj, rfl⟩ := (mem_cyc h hyn).mp hz
  have R := (rho h hs).1
  refine (mem_cyc h hs).mpr ⟨(i + j) % A.rd s, Nat.mod_lt _ (by have := R.r1; omega), ?_⟩
  rw [← R.mod, ← A.go_add]
  congr 1; omega
/-- the least stands of the rounds -/
noncomputable def isR (A : Am) (s : Nat) : Bool := decide (A.tl s = 0) && (A.cyc s).all fun y => decide (s ≤ y)
noncomputable def rds (A : Am) (i : Nat) : List (List Nat) := ((List.range i).filter A.isR).map A.cyc
theorem isR_iff {s : Nat} : A.isR s = true ↔ A.tl s = 0 ∧ ∀ y ∈ A.cyc s, s ≤ y := by
  unfold isR
  rw [Bool.and_eq_true, decide_eq_true_eq, List.all_eq_true]
  exact ⟨fun ⟨a, b⟩ => ⟨a, fun y hy => of_decide_eq_true (b y hy)⟩, fun ⟨a, b⟩ => ⟨a, fun y hy => decide_eq_true (b y hy)⟩⟩
theorem mem_rds {i : Nat} {c : List Nat} : c ∈ A.rds i ↔ ∃ s, s < i ∧ A.isR s = true ∧ A.cyc s = c := by
  unfold rds
  rw [List.mem_map]
  constructor
  · rintro ⟨s, hs, e⟩
    rw [List.mem_filter, List.mem_range] at hs
    exact ⟨s, hs.1, hs.2, e⟩
  · rintro ⟨s, h1, h2, e⟩
    exact ⟨s, List.mem_filter.mpr ⟨List.mem_range.mpr h1, h2⟩, e⟩
theorem rds_succ (i : Nat) : A.rds (i + 1) = if A.isR i = true then A.rds i ++ [A.cyc i] else A.rds i := by
  unfold rds
  rw [List.range_succ, List.filter_append, List.map_append]
  split
  · rename_i q; rw [List.filter_cons_of_pos q]; rfl
  · rename_i q; rw [List.filter_cons_of_neg q]; exact List.append_nil _
/-- in a round there is a least one -/
theorem cyc_min (h : A.Ok) {s : Nat} (hs : s < A.n) (h0 : A.tl s = 0) : ∃ m, m ∈ A.cyc s ∧ m ≤ s ∧ m < A.n ∧ A.isR m = true ∧ s ∈ A.cyc m := by
  have hx : ∃ m, m ∈ A.cyc s := ⟨s, self_cyc h hs h0⟩
  obtain ⟨m0, hm0⟩ := hx
  obtain ⟨m, _, hm, hl⟩ := least_of (p := fun m => m ∈ A.cyc s) hm0
  obtain ⟨e1, e2, e3, e4⟩ := cyc_in h hs h0 hm
  have hms : m ≤ s := by
    rcases Nat.lt_or_ge s m with z | z
    · exact (hl s z (self_cyc h hs h0)).elim
    · exact z
  refine ⟨m, hm, hms, e3, isR_iff.mpr ⟨e1, fun y hy => ?_⟩, e4⟩
  have := cyc_trans h hs h0 hm hy
  rcases Nat.lt_or_ge y m with z | z
  · exact (hl y z this).elim
  · exact z
/-- a stand without a tail is the least of its round just if no round told before has it -/
theorem isR_new (h : A.Ok) {i : Nat} (hi : i < A.n) : A.isR i = (decide (A.tl i = 0) && !((A.rds i).any fun c => decide (i ∈ c))) := by
  rw [Bool.eq_iff_iff, Bool.and_eq_true, decide_eq_true_eq, Bool.not_eq_true', isR_iff]
  constructor
  · rintro ⟨h0, hm⟩
    refine ⟨h0, ?_⟩
    rw [List.any_eq_false]
    intro c hc
    obtain ⟨s, hs, hr, rfl⟩ := mem_rds.mp hc
    rw [decide_eq_true_eq]
    intro hin
    obtain ⟨h1, h2⟩ := isR_iff.mp hr
    obtain ⟨_, _, _, hsi⟩ := cyc_in h (by omega) h1 hin
    have := hm s hsi
    omega
  · rintro ⟨h0, hn⟩
    refine ⟨h0, ?_⟩
    obtain ⟨m, h1, h2, h3, h4, h5⟩ := cyc_min h hi h0
    have e : m = i := by
      rcases Nat.lt_or_ge m i with z | z
      · rw [List.any_eq_false] at hn
        have := hn _ (mem_rds.mpr ⟨m, z, h4, rfl⟩)
        rw [decide_eq_true_eq] at this
        exact (this h5).elim
      · omega
    rw [e] at h4
    exact (isR_iff.mp h4).2
theorem rds_len (i : Nat) : (A.rds i).length ≤ i := by
  unfold rds
  have := List.length_filter_le A.isR (List.range i)
  rw [List.length_range] at this
  rw [List.length_map]
  exact this
/-- the stands to which no step leads -/
def los (A : Am) : List Nat := (List.range A.n).filter fun s => !decide (s ∈ (List.range A.n).map A.f)
end Am
end Iv
namespace Iv
namespace Am
variable {A : Am}
theorem rds_filter (h : A.Ok) {s : Nat} (hs : s < A.n) : (A.tl s = 0 → ∃ c, (A.rds A.n).filter (fun c => decide (s ∈ c)) = [c] ∧ c.length = A.rd s) ∧ (A.tl s ≠ 0 → (A.rds A.n).filter (fun c => decide (s ∈ c)) = []) := by
  have e : (A.rds A.n).filter (fun c => decide (s ∈ c)) = ((List.range A.n).filter fun m => A.isR m && decide (s ∈ A.cyc m)).map A.cyc := by
    unfold rds
    rw [List.filter_map, List.filter_filter]
    congr 1
    refine List.filter_congr fun x _ => ?_
    show (decide (s ∈ A.cyc x) && A.isR x) = _
    rw [Bool.and_comm]
  constructor
  · intro h0
    obtain ⟨m, h1, h2, h3, h4, h5⟩ := cyc_min h hs h0
    refine ⟨A.cyc m, ?_, ?_⟩
    · rw [e]
      have : (List.range A.n).filter (fun m => A.isR m && decide (s ∈ A.cyc m)) = [m] := by
        refine incN_unique (filter_inc (range_inc _) _) (List.pairwise_singleton _ _) fun k => ?_
        rw [List.mem_filter, List.mem_range, Bool.and_eq_true, decide_eq_true_eq, List.mem_singleton]
        constructor
        · rintro ⟨k1, k2, k3⟩
          obtain ⟨q1, q2⟩ := isR_iff.mp k2
          obtain ⟨p1, p2⟩ := isR_iff.mp h4
          have a1 : m ∈ A.cyc k := cyc_trans h k1 q1 k3 h1
          have a2 := q2 m a1
          obtain ⟨_, _, _, a3⟩ := cyc_in h k1 q1 a1
          have a4 := p2 k a3
          omega
        · rintro rfl
          exact ⟨h3, h4, h5⟩
      rw [this]; rfl
    · obtain ⟨_, e2, _, _⟩ := cyc_in h hs h0 h1
      rw [cyc_len h h3, e2]
  · intro h0
    rw [e, List.filter_eq_nil_iff.mpr]
    · rfl
    · intro m hm
      rw [Bool.and_eq_true, decide_eq_true_eq]
      rintro ⟨k2, k3⟩
      exact h0 (cyc_in h (List.mem_range.mp hm) (isR_iff.mp k2).1 k3).1
theorem step_tl (h : A.Ok) {s : Nat} (hs : s < A.n) : A.tl (A.f s) = A.tl s - 1 ∧ A.rd (A.f s) = A.rd s := by
  have R := (rho h hs).1
  cases e : A.tl s with
  | zero =>
    rw [e] at R
    exact ⟨R.round.eqs.2.1, R.round.eqs.2.2⟩
  | succ t =>
    rw [e] at R
    exact ⟨R.step.eqs.2.1, R.step.eqs.2.2⟩
/-- behind the tail -/
theorem end_tl (h : A.Ok) {s : Nat} (hs : s < A.n) : A.tl (A.go s (A.tl s)) = 0 ∧ A.rd (A.go s (A.tl s)) = A.rd s ∧ A.go (A.go s (A.tl s)) (A.rd s) = A.go s (A.tl s) := by
  have R := (rho h hs).1
  have R2 := R.at_round 0
  rw [Nat.add_zero] at R2
  have e := R2.back
  rw [Nat.zero_add] at e
  exact ⟨R2.eqs.2.1, R2.eqs.2.2, e⟩
theorem tl_lt (h : A.Ok) {s : Nat} (hs : s < A.n) : A.tl s < A.n ∧ 1 ≤ A.rd s ∧ A.rd s ≤ A.n := by
  obtain ⟨R, h1, _⟩ := rho h hs
  have := R.r1
  omega
/-- a stand to which no step leads has a tail -/
theorem los_tl (h : A.Ok) {s : Nat} (hs : s < A.n) (hl : s ∈ A.los) : A.tl s ≠ 0 := by
  intro h0
  unfold los at hl
  rw [List.mem_filter, Bool.not_eq_true', decide_eq_false_iff_not] at hl
  apply hl.2
  have R := (rho h hs).1
  rw [h0] at R
  have hb : A.go s (A.rd s) = s := by have := R.back; rw [Nat.zero_add] at this; exact this
  have r1 := R.r1
  obtain ⟨r, hr⟩ : ∃ r, A.rd s = r + 1 := ⟨A.rd s - 1, by omega⟩
  rw [hr, A.go_succ] at hb
  exact List.mem_map.mpr ⟨A.go s r, List.mem_range.mpr (go_lt h hs r), hb⟩
theorem mem_los {s : Nat} (hs : s < A.n) : decide (s ∈ A.los) = !decide (s ∈ (List.range A.n).map A.f) := by
  rw [Bool.eq_iff_iff, decide_eq_true_eq]
  unfold los
  rw [List.mem_filter, List.mem_range]
  exact ⟨fun z => z.2, fun z => ⟨hs, z⟩⟩
theorem sum_map_le {α : Type} (g : α → Nat) (k : Nat) : ∀ l : List α, (∀ a ∈ l, g a ≤ k) → (l.map g).sum ≤ l.length * k
  | [], _ => by simp
  | a :: r, h => by
    have := sum_map_le g k r fun x hx => h x (.tail _ hx)
    have := h a (.head _)
    rw [List.map_cons, List.sum_cons, List.length_cons, Nat.succ_mul]
    omega
/-- all rounds together -/
theorem rds_sum (h : A.Ok) : ((A.rds A.n).map List.length).sum ≤ A.n := by
  have nd : ∀ i, i ≤ A.n → (A.rds i).flatten.Nodup := by
    intro i
    induction i with
    | zero => intro _; exact List.nodup_nil
    | succ i ih =>
      intro hi
      rw [rds_succ]
      split
      · rename_i q
        rw [List.flatten_append, List.nodup_append]
        have hin : i < A.n := by omega
        refine ⟨ih (by omega), ?_, fun a ha b hb e => ?_⟩
        · rw [List.flatten_cons, List.flatten_nil, List.append_nil, cyc_eq h hin]
          have R := (rho h hin).1
          refine List.Pairwise.map _ (fun x y => ?_) (List.Pairwise.and_mem.mp (List.nodup_range (n := A.rd i)))
          rintro ⟨h1, h2, h3⟩ e
          rw [List.mem_range] at h1 h2
          have := R.inj _ _ (by omega) (by omega) e
          omega
        · subst e
          rw [List.flatten_cons, List.flatten_nil, List.append_nil] at hb
          obtain ⟨c, hc, hac⟩ := List.mem_flatten.mp ha
          obtain ⟨s, h1, h2, rfl⟩ := mem_rds.mp hc
          obtain ⟨q1, q2⟩ := isR_iff.mp q
          obtain ⟨p1, p2⟩ := isR_iff.mp h2
          obtain ⟨z1, z2, z3, z4⟩ := cyc_in h (by omega) p1 hac
          have := q2 s (cyc_trans h hin q1 hb z4)
          omega
      · exact ih (by omega)
  have := nodup_len (n := A.n) (nd A.n (Nat.le_refl _)) fun x hx => by
    obtain ⟨c, hc, hxc⟩ := List.mem_flatten.mp hx
    obtain ⟨s, h1, h2, rfl⟩ := mem_rds.mp hc
    exact cyc_lt h h1 x hxc
  rw [List.length_flatten] at this
  exact this
theorem rds_ne (h : A.Ok) : A.rds A.n ≠ [] := by
  intro e
  have h0 := (end_tl h h.pos).1
  have hs := go_lt h h.pos (A.tl 0)
  obtain ⟨c, hc, _⟩ := (rds_filter h hs).1 h0
  rw [e] at hc
  cases hc
end Am
end Iv
end

section
namespace Iv
open PySem
def b_walk : S := (.seq (.setO 2 (.lst .nil)) (.seq (.whl (.cmp .nin (.v 1) (.v 2)) (.seq (.app 2 (.v 1)) (.set 1 (.call "step" (.cons (.v 0) (.cons (.v 1) .nil)))))) (.frz 2 (.ret (.tup (.cons (.v 2) (.cons (.v 1) .nil)))))))
def b_tail : S := (.seq (.unp (.tup (.cons (.nm 2) (.cons (.nm 3) .nil))) (.call "walk" (.cons (.v 0) (.cons (.v 1) .nil)))) (.ret (.meth .index (.v 2) (.cons (.v 3) .nil))))
def b_round_from : S := (.seq (.unp (.tup (.cons (.nm 2) (.cons (.nm 3) .nil))) (.call "walk" (.cons (.v 0) (.cons (.v 1) .nil)))) (.ret (.sl (.v 2) (.so (.meth .index (.v 2) (.cons (.v 3) .nil))) .no)))
def b_round_of : S := (.ret (.bi .len (.cons (.call "round_from" (.cons (.v 0) (.cons (.v 1) .nil))) .nil)))
def b_rounds : S := (.seq (.setO 1 (.lst .nil)) (.seq (.for_ (.nm 2) (.r1 (.call "stands" (.cons (.v 0) .nil))) (.iff (.and (.cmp .eq (.call "tail" (.cons (.v 0) (.cons (.v 2) .nil))) (.c (nI 0))) (.not (.bi .any (.cons (.comp (.nm 3) (.own 1) .no (.cmp .isin (.v 2) (.v 3)) [3]) .nil)))) (.app 1 (.bi .tuple (.cons (.call "round_from" (.cons (.v 0) (.cons (.v 2) .nil))) .nil))) .pass)) (.ret (.bi .tuple (.cons (.v 1) .nil)))))
def b_lost : S := (.seq (.set 1 (.comp (.nm 2) (.r1 (.call "stands" (.cons (.v 0) .nil))) .no (.call "step" (.cons (.v 0) (.cons (.v 2) .nil))) [2])) (.ret (.bi .tuple (.cons (.comp (.nm 2) (.r1 (.call "stands" (.cons (.v 0) .nil))) (.so (.cmp .nin (.v 2) (.v 1))) (.v 2) [2]) .nil))))
section
variable {DS : List Def} [Has DS "power" 2 4 b_power] [Has DS "stands" 1 1 b_stands] [Has DS "step" 2 4 b_step] [Has DS "walk" 2 3 b_walk]
theorem r_walk (n : Nat) {M : Mk} (hM : M.ok) {s : Nat} (hs : s < M.am.n) : runF DS (n + 4) "walk" [M.d, nI s] = .ok (.tuple [lI (M.am.orb s (M.am.len s)), nI (M.am.go s (M.am.len s))]) := by
  have hA := Mk.am_ok hM
  have h64 := hA.le
  obtain ⟨he, hle⟩ := Am.len_ends hA hs
  rw [run_has (n + 3) _ rfl]
  simp (disch := first | omega | with_reducible assumption | (simp only [List.length_cons, List.length_nil, List.length_append, List.length_map, List.length_range, Am.row_len]; omega)) only [b_walk, v_c, v_g, v_v, v_bin, v_neg, v_cmp, v_chain, v_and, v_or, v_not, v_ix, v_sl, v_rev, v_tup, v_lst, v_call, v_bi, v_rng, v_srtSet, v_meth, v_isi, v_dnew, v_srtKey, vs_nil, vs_cons, vr_nil, vr_cons, vo_no, vo_so, vc_e, vc_own, vc_1, vc_2, vc_en, vc_zip, v_comp1, v_comp1c, v_comp2, x_pass, x_seq, x_frz, x_set, x_setO, x_unp, x_par, x_par3, x_iff, x_ret, x_retN, x_rai, x_exp, x_cont, x_for, x_whl, x_app, x_ext, x_pop0, x_setIx, own_s, kApp_L, kApp_I, kExt_L, kExt_I, kSet_L, kSet_I, kSet_T, kSet_K, R.bind_ok, R.fl_ok, R.nox_ok, then_kS, fl_kFor, then_rt, then_exc, toR_rt, toR_exc, asB_b, rd_val, rd_own, onx_s, List.getElem?_cons_zero, List.getElem?_cons_succ, List.set_cons_zero, List.set_cons_succ, List.map_cons, List.map_nil, List.cons_append, List.nil_append, List.replicate_succ, List.replicate_zero, Nat.reduceSub, Nat.sub_zero, cond_true, cond_false, cond_b1, cond_b2, Bool.not_true, Bool.not_false, List.length_cons, List.length_nil, Nat.zero_add, Nat.reduceAdd, b_nm, b_tup, bs_nil, bs_cons, b_some, frzE, own_I, own_L, own_T, own_K, n_add, n_mulL, n_mulR, n_sub, n_mod, n_div, n_lt, n_le, n_gt, n_ge, n_eq, n_ne, n_neg, ↓cmpr_map, ↓cmpA_map, ↓cmpA_range, cmpA_ok, cmpA_okc, cmpN_ok, cmpN_okc, cmpA_none, cmpN_none, gd_t, gd_k, r1_n, rng_t, rng_l, psk_ok, ix_t0, ix_t1, ix_t2, ix_t3, ix_t4, ix_m4, ix_m5, ix_dI, ix_lI, len_t, len_l, len_dI, len_lI, src_d, src_l, src_L, src_T, srcO_L, srcO_I, tup_l, tup_lI, tup_t, tup_dI, lst_dI, lst_lI, lst_t, fold_lI, fold_dI, sum_lI, cat_dI, tup1_n, tup0_n, lst0_n, papp_I, papp_L, fold_snoc, fold_set, pext_L, psetI_I, psetL_I, fold_l, fold_t, fold_l1, pss_l, pss_d, in_lI, in_dI, nin_lI, nin_dI, meOk_i, meOk_L, me_idx, sl_from, sl_to, plo_n, plo_j, isi_ni, isi_nb, isi_nt, isi_dt, isi_tt, isi_ss, all_b, any_b, eq_lI, eq_dI, ne_lI, ne_dI, int_b, min_n, max_n, mul_lI, cat_lI, sorted_I, eq_bb, ne_bb, map_dsnoc, sub_01, max_0j, ne_LD, ne_DD]
  have hc : ∀ i, (ev (runF DS (n + 3)) false (.cmp .nin (.v 1) (.v 2)) [.val M.d, .val (nI (M.am.go s i)), .own (lI (M.am.orb s i))]).bind asB = .ok (!decide (M.am.go s i ∈ M.am.orb s i)) := by
    intro i
    simp (disch := first | omega | with_reducible assumption | (simp only [List.length_cons, List.length_nil, List.length_append, List.length_map, List.length_range, Am.row_len]; omega)) only [v_c, v_g, v_v, v_bin, v_neg, v_cmp, v_chain, v_and, v_or, v_not, v_ix, v_sl, v_rev, v_tup, v_lst, v_call, v_bi, v_rng, v_srtSet, v_meth, v_isi, v_dnew, v_srtKey, vs_nil, vs_cons, vr_nil, vr_cons, vo_no, vo_so, vc_e, vc_own, vc_1, vc_2, vc_en, vc_zip, v_comp1, v_comp1c, v_comp2, x_pass, x_seq, x_frz, x_set, x_setO, x_unp, x_par, x_par3, x_iff, x_ret, x_retN, x_rai, x_exp, x_cont, x_for, x_whl, x_app, x_ext, x_pop0, x_setIx, own_s, kApp_L, kApp_I, kExt_L, kExt_I, kSet_L, kSet_I, kSet_T, kSet_K, R.bind_ok, R.fl_ok, R.nox_ok, then_kS, fl_kFor, then_rt, then_exc, toR_rt, toR_exc, asB_b, rd_val, rd_own, onx_s, List.getElem?_cons_zero, List.getElem?_cons_succ, List.set_cons_zero, List.set_cons_succ, List.map_cons, List.map_nil, List.cons_append, List.nil_append, List.replicate_succ, List.replicate_zero, Nat.reduceSub, Nat.sub_zero, cond_true, cond_false, cond_b1, cond_b2, Bool.not_true, Bool.not_false, List.length_cons, List.length_nil, Nat.zero_add, Nat.reduceAdd, b_nm, b_tup, bs_nil, bs_cons, b_some, frzE, own_I, own_L, own_T, own_K, n_add, n_mulL, n_mulR, n_sub, n_mod, n_div, n_lt, n_le, n_gt, n_ge, n_eq, n_ne, n_neg, ↓cmpr_map, ↓cmpA_map, ↓cmpA_range, cmpA_ok, cmpA_okc, cmpN_ok, cmpN_okc, cmpA_none, cmpN_none, gd_t, gd_k, r1_n, rng_t, rng_l, psk_ok, ix_t0, ix_t1, ix_t2, ix_t3, ix_t4, ix_m4, ix_m5, ix_dI, ix_lI, len_t, len_l, len_dI, len_lI, src_d, src_l, src_L, src_T, srcO_L, srcO_I, tup_l, tup_lI, tup_t, tup_dI, lst_dI, lst_lI, lst_t, fold_lI, fold_dI, sum_lI, cat_dI, tup1_n, tup0_n, lst0_n, papp_I, papp_L, fold_snoc, fold_set, pext_L, psetI_I, psetL_I, fold_l, fold_t, fold_l1, pss_l, pss_d, in_lI, in_dI, nin_lI, nin_dI, meOk_i, meOk_L, me_idx, sl_from, sl_to, plo_n, plo_j, isi_ni, isi_nb, isi_nt, isi_dt, isi_tt, isi_ss, all_b, any_b, eq_lI, eq_dI, ne_lI, ne_dI, int_b, min_n, max_n, mul_lI, cat_lI, sorted_I, eq_bb, ne_bb, map_dsnoc, sub_01, max_0j, ne_LD, ne_DD]
  have hb : ∀ i, i ≤ M.am.n → ex (runF DS (n + 3)) (.seq (.app 2 (.v 1)) (.set 1 (.call "step" (.cons (.v 0) (.cons (.v 1) .nil))))) [.val M.d, .val (nI (M.am.go s i)), .own (lI (M.am.orb s i))] = .nx [.val M.d, .val (nI (M.am.go s (i + 1))), .own (lI (M.am.orb s (i + 1)))] := by
    intro i hi
    have hg := Am.go_lt hA hs i
    have hl := Am.orb_len M.am s i
    simp (disch := first | omega | with_reducible assumption | (simp only [List.length_cons, List.length_nil, List.length_append, List.length_map, List.length_range, Am.row_len]; omega)) only [v_c, v_g, v_v, v_bin, v_neg, v_cmp, v_chain, v_and, v_or, v_not, v_ix, v_sl, v_rev, v_tup, v_lst, v_call, v_bi, v_rng, v_srtSet, v_meth, v_isi, v_dnew, v_srtKey, vs_nil, vs_cons, vr_nil, vr_cons, vo_no, vo_so, vc_e, vc_own, vc_1, vc_2, vc_en, vc_zip, v_comp1, v_comp1c, v_comp2, x_pass, x_seq, x_frz, x_set, x_setO, x_unp, x_par, x_par3, x_iff, x_ret, x_retN, x_rai, x_exp, x_cont, x_for, x_whl, x_app, x_ext, x_pop0, x_setIx, own_s, kApp_L, kApp_I, kExt_L, kExt_I, kSet_L, kSet_I, kSet_T, kSet_K, R.bind_ok, R.fl_ok, R.nox_ok, then_kS, fl_kFor, then_rt, then_exc, toR_rt, toR_exc, asB_b, rd_val, rd_own, onx_s, List.getElem?_cons_zero, List.getElem?_cons_succ, List.set_cons_zero, List.set_cons_succ, List.map_cons, List.map_nil, List.cons_append, List.nil_append, List.replicate_succ, List.replicate_zero, Nat.reduceSub, Nat.sub_zero, cond_true, cond_false, cond_b1, cond_b2, Bool.not_true, Bool.not_false, List.length_cons, List.length_nil, Nat.zero_add, Nat.reduceAdd, b_nm, b_tup, bs_nil, bs_cons, b_some, frzE, own_I, own_L, own_T, own_K, n_add, n_mulL, n_mulR, n_sub, n_mod, n_div, n_lt, n_le, n_gt, n_ge, n_eq, n_ne, n_neg, ↓cmpr_map, ↓cmpA_map, ↓cmpA_range, cmpA_ok, cmpA_okc, cmpN_ok, cmpN_okc, cmpA_none, cmpN_none, gd_t, gd_k, r1_n, rng_t, rng_l, psk_ok, ix_t0, ix_t1, ix_t2, ix_t3, ix_t4, ix_m4, ix_m5, ix_dI, ix_lI, len_t, len_l, len_dI, len_lI, src_d, src_l, src_L, src_T, srcO_L, srcO_I, tup_l, tup_lI, tup_t, tup_dI, lst_dI, lst_lI, lst_t, fold_lI, fold_dI, sum_lI, cat_dI, tup1_n, tup0_n, lst0_n, papp_I, papp_L, fold_snoc, fold_set, pext_L, psetI_I, psetL_I, fold_l, fold_t, fold_l1, pss_l, pss_d, in_lI, in_dI, nin_lI, nin_dI, meOk_i, meOk_L, me_idx, sl_from, sl_to, plo_n, plo_j, isi_ni, isi_nb, isi_nt, isi_dt, isi_tt, isi_ss, all_b, any_b, eq_lI, eq_dI, ne_lI, ne_dI, int_b, min_n, max_n, mul_lI, cat_lI, sorted_I, eq_bb, ne_bb, map_dsnoc, sub_01, max_0j, ne_LD, ne_DD, r_step, ← Am.orb_succ, ← Am.go_succ]
  have hb' : ∀ i, (∀ j, j ≤ i → (!decide (M.am.go s j ∈ M.am.orb s j)) = true) → ex (runF DS (n + 3)) (.seq (.app 2 (.v 1)) (.set 1 (.call "step" (.cons (.v 0) (.cons (.v 1) .nil))))) [.val M.d, .val (nI (M.am.go s i)), .own (lI (M.am.orb s i))] = .nx [.val M.d, .val (nI (M.am.go s (i + 1))), .own (lI (M.am.orb s (i + 1)))] := by
    intro i hi
    refine hb i ?_
    rcases Nat.lt_or_ge (M.am.len s) (i + 1) with z | z
    · have := hi (M.am.len s) (by omega)
      rw [Bool.not_eq_true', decide_eq_false_iff_not] at this
      exact (this he.1).elim
    · omega
  obtain ⟨T, _, h1, h2, h3⟩ := whl_until (ρ0 := [.val M.d, .val (nI s), .own (lI [])]) (fun i => [.val M.d, .val (nI (M.am.go s i)), .own (lI (M.am.orb s i))]) (fun i => !decide (M.am.go s i ∈ M.am.orb s i)) rfl (fun i _ => hc i) hb' (T := M.am.len s) (by rw [decide_eq_true he.1]; rfl) (by omega)
  have eT : M.am.len s = T := by
    refine Am.len_eq ⟨?_, fun j hj z => ?_⟩
    · rw [Bool.not_eq_false', decide_eq_true_eq] at h1; exact h1
    · have := h2 j hj
      rw [Bool.not_eq_true', decide_eq_false_iff_not] at this
      exact this z
  rw [h3, eT]
  simp only [v_c, v_g, v_v, v_bin, v_neg, v_cmp, v_chain, v_and, v_or, v_not, v_ix, v_sl, v_rev, v_tup, v_lst, v_call, v_bi, v_rng, v_srtSet, v_meth, v_isi, v_dnew, v_srtKey, vs_nil, vs_cons, vr_nil, vr_cons, vo_no, vo_so, vc_e, vc_own, vc_1, vc_2, vc_en, vc_zip, v_comp1, v_comp1c, v_comp2, x_pass, x_seq, x_frz, x_set, x_setO, x_unp, x_par, x_par3, x_iff, x_ret, x_retN, x_rai, x_exp, x_cont, x_for, x_whl, x_app, x_ext, x_pop0, x_setIx, own_s, kApp_L, kApp_I, kExt_L, kExt_I, kSet_L, kSet_I, kSet_T, kSet_K, R.bind_ok, R.fl_ok, R.nox_ok, then_kS, fl_kFor, then_rt, then_exc, toR_rt, toR_exc, asB_b, rd_val, rd_own, onx_s, List.getElem?_cons_zero, List.getElem?_cons_succ, List.set_cons_zero, List.set_cons_succ, List.map_cons, List.map_nil, List.cons_append, List.nil_append, List.replicate_succ, List.replicate_zero, Nat.reduceSub, Nat.sub_zero, cond_true, cond_false, cond_b1, cond_b2, Bool.not_true, Bool.not_false, List.length_cons, List.length_nil, Nat.zero_add, Nat.reduceAdd, b_nm, b_tup, bs_nil, bs_cons, b_some, frzE, own_I, own_L, own_T, own_K]
theorem end_mem {A : Am} (hA : A.Ok) {s : Nat} (hs : s < A.n) : A.go s (A.len s) ∈ A.orb s (A.len s) := (Am.len_ends hA hs).1.1
variable [Has DS "tail" 2 4 b_tail]
theorem r_tail (n : Nat) {M : Mk} (hM : M.ok) {s : Nat} (hs : s < M.am.n) : runF DS (n + 5) "tail" [M.d, nI s] = .ok (nI (M.am.tl s)) := by
  have hA := Mk.am_ok hM
  have hm := end_mem hA hs
  rw [run_has (n + 4) _ rfl]
  simp (disch := first | omega | with_reducible assumption | (simp only [List.length_cons, List.length_nil, List.length_append, List.length_map, List.length_range, Am.row_len]; omega)) only [b_tail, v_c, v_g, v_v, v_bin, v_neg, v_cmp, v_chain, v_and, v_or, v_not, v_ix, v_sl, v_rev, v_tup, v_lst, v_call, v_bi, v_rng, v_srtSet, v_meth, v_isi, v_dnew, v_srtKey, vs_nil, vs_cons, vr_nil, vr_cons, vo_no, vo_so, vc_e, vc_own, vc_1, vc_2, vc_en, vc_zip, v_comp1, v_comp1c, v_comp2, x_pass, x_seq, x_frz, x_set, x_setO, x_unp, x_par, x_par3, x_iff, x_ret, x_retN, x_rai, x_exp, x_cont, x_for, x_whl, x_app, x_ext, x_pop0, x_setIx, own_s, kApp_L, kApp_I, kExt_L, kExt_I, kSet_L, kSet_I, kSet_T, kSet_K, R.bind_ok, R.fl_ok, R.nox_ok, then_kS, fl_kFor, then_rt, then_exc, toR_rt, toR_exc, asB_b, rd_val, rd_own, onx_s, List.getElem?_cons_zero, List.getElem?_cons_succ, List.set_cons_zero, List.set_cons_succ, List.map_cons, List.map_nil, List.cons_append, List.nil_append, List.replicate_succ, List.replicate_zero, Nat.reduceSub, Nat.sub_zero, cond_true, cond_false, cond_b1, cond_b2, Bool.not_true, Bool.not_false, List.length_cons, List.length_nil, Nat.zero_add, Nat.reduceAdd, b_nm, b_tup, bs_nil, bs_cons, b_some, frzE, own_I, own_L, own_T, own_K, n_add, n_mulL, n_mulR, n_sub, n_mod, n_div, n_lt, n_le, n_gt, n_ge, n_eq, n_ne, n_neg, ↓cmpr_map, ↓cmpA_map, ↓cmpA_range, cmpA_ok, cmpA_okc, cmpN_ok, cmpN_okc, cmpA_none, cmpN_none, gd_t, gd_k, r1_n, rng_t, rng_l, psk_ok, ix_t0, ix_t1, ix_t2, ix_t3, ix_t4, ix_m4, ix_m5, ix_dI, ix_lI, len_t, len_l, len_dI, len_lI, src_d, src_l, src_L, src_T, srcO_L, srcO_I, tup_l, tup_lI, tup_t, tup_dI, lst_dI, lst_lI, lst_t, fold_lI, fold_dI, sum_lI, cat_dI, tup1_n, tup0_n, lst0_n, papp_I, papp_L, fold_snoc, fold_set, pext_L, psetI_I, psetL_I, fold_l, fold_t, fold_l1, pss_l, pss_d, in_lI, in_dI, nin_lI, nin_dI, meOk_i, meOk_L, me_idx, sl_from, sl_to, plo_n, plo_j, isi_ni, isi_nb, isi_nt, isi_dt, isi_tt, isi_ss, all_b, any_b, eq_lI, eq_dI, ne_lI, ne_dI, int_b, min_n, max_n, mul_lI, cat_lI, sorted_I, eq_bb, ne_bb, map_dsnoc, sub_01, max_0j, ne_LD, ne_DD, r_walk]
  rfl
end
section
variable {DS : List Def} [Has DS "power" 2 4 b_power] [Has DS "stands" 1 1 b_stands] [Has DS "step" 2 4 b_step] [Has DS "walk" 2 3 b_walk] [Has DS "round_from" 2 4 b_round_from]
theorem r_rfrom (n : Nat) {M : Mk} (hM : M.ok) {s : Nat} (hs : s < M.am.n) : runF DS (n + 5) "round_from" [M.d, nI s] = .ok (lI (M.am.cyc s)) := by
  have hA := Mk.am_ok hM
  have hm := end_mem hA hs
  have hi : (M.am.orb s (M.am.len s)).idxOf (M.am.go s (M.am.len s)) ≤ (M.am.orb s (M.am.len s)).length := Nat.le_of_lt (idx_len hm)
  rw [run_has (n + 4) _ rfl]
  simp (disch := first | omega | with_reducible assumption | (simp only [List.length_cons, List.length_nil, List.length_append, List.length_map, List.length_range, Am.row_len]; omega)) only [b_round_from, v_c, v_g, v_v, v_bin, v_neg, v_cmp, v_chain, v_and, v_or, v_not, v_ix, v_sl, v_rev, v_tup, v_lst, v_call, v_bi, v_rng, v_srtSet, v_meth, v_isi, v_dnew, v_srtKey, vs_nil, vs_cons, vr_nil, vr_cons, vo_no, vo_so, vc_e, vc_own, vc_1, vc_2, vc_en, vc_zip, v_comp1, v_comp1c, v_comp2, x_pass, x_seq, x_frz, x_set, x_setO, x_unp, x_par, x_par3, x_iff, x_ret, x_retN, x_rai, x_exp, x_cont, x_for, x_whl, x_app, x_ext, x_pop0, x_setIx, own_s, kApp_L, kApp_I, kExt_L, kExt_I, kSet_L, kSet_I, kSet_T, kSet_K, R.bind_ok, R.fl_ok, R.nox_ok, then_kS, fl_kFor, then_rt, then_exc, toR_rt, toR_exc, asB_b, rd_val, rd_own, onx_s, List.getElem?_cons_zero, List.getElem?_cons_succ, List.set_cons_zero, List.set_cons_succ, List.map_cons, List.map_nil, List.cons_append, List.nil_append, List.replicate_succ, List.replicate_zero, Nat.reduceSub, Nat.sub_zero, cond_true, cond_false, cond_b1, cond_b2, Bool.not_true, Bool.not_false, List.length_cons, List.length_nil, Nat.zero_add, Nat.reduceAdd, b_nm, b_tup, bs_nil, bs_cons, b_some, frzE, own_I, own_L, own_T, own_K, n_add, n_mulL, n_mulR, n_sub, n_mod, n_div, n_lt, n_le, n_gt, n_ge, n_eq, n_ne, n_neg, ↓cmpr_map, ↓cmpA_map, ↓cmpA_range, cmpA_ok, cmpA_okc, cmpN_ok, cmpN_okc, cmpA_none, cmpN_none, gd_t, gd_k, r1_n, rng_t, rng_l, psk_ok, ix_t0, ix_t1, ix_t2, ix_t3, ix_t4, ix_m4, ix_m5, ix_dI, ix_lI, len_t, len_l, len_dI, len_lI, src_d, src_l, src_L, src_T, srcO_L, srcO_I, tup_l, tup_lI, tup_t, tup_dI, lst_dI, lst_lI, lst_t, fold_lI, fold_dI, sum_lI, cat_dI, tup1_n, tup0_n, lst0_n, papp_I, papp_L, fold_snoc, fold_set, pext_L, psetI_I, psetL_I, fold_l, fold_t, fold_l1, pss_l, pss_d, in_lI, in_dI, nin_lI, nin_dI, meOk_i, meOk_L, me_idx, sl_from, sl_to, plo_n, plo_j, isi_ni, isi_nb, isi_nt, isi_dt, isi_tt, isi_ss, all_b, any_b, eq_lI, eq_dI, ne_lI, ne_dI, int_b, min_n, max_n, mul_lI, cat_lI, sorted_I, eq_bb, ne_bb, map_dsnoc, sub_01, max_0j, ne_LD, ne_DD, r_walk]
  rfl
variable [Has DS "round_of" 2 2 b_round_of]
theorem r_rof (n : Nat) {M : Mk} (hM : M.ok) {s : Nat} (hs : s < M.am.n) : runF DS (n + 6) "round_of" [M.d, nI s] = .ok (nI (M.am.rd s)) := by
  have hA := Mk.am_ok hM
  rw [run_has (n + 5) _ rfl]
  simp (disch := first | omega | with_reducible assumption | (simp only [List.length_cons, List.length_nil, List.length_append, List.length_map, List.length_range, Am.row_len]; omega)) only [b_round_of, v_c, v_g, v_v, v_bin, v_neg, v_cmp, v_chain, v_and, v_or, v_not, v_ix, v_sl, v_rev, v_tup, v_lst, v_call, v_bi, v_rng, v_srtSet, v_meth, v_isi, v_dnew, v_srtKey, vs_nil, vs_cons, vr_nil, vr_cons, vo_no, vo_so, vc_e, vc_own, vc_1, vc_2, vc_en, vc_zip, v_comp1, v_comp1c, v_comp2, x_pass, x_seq, x_frz, x_set, x_setO, x_unp, x_par, x_par3, x_iff, x_ret, x_retN, x_rai, x_exp, x_cont, x_for, x_whl, x_app, x_ext, x_pop0, x_setIx, own_s, kApp_L, kApp_I, kExt_L, kExt_I, kSet_L, kSet_I, kSet_T, kSet_K, R.bind_ok, R.fl_ok, R.nox_ok, then_kS, fl_kFor, then_rt, then_exc, toR_rt, toR_exc, asB_b, rd_val, rd_own, onx_s, List.getElem?_cons_zero, List.getElem?_cons_succ, List.set_cons_zero, List.set_cons_succ, List.map_cons, List.map_nil, List.cons_append, List.nil_append, List.replicate_succ, List.replicate_zero, Nat.reduceSub, Nat.sub_zero, cond_true, cond_false, cond_b1, cond_b2, Bool.not_true, Bool.not_false, List.length_cons, List.length_nil, Nat.zero_add, Nat.reduceAdd, b_nm, b_tup, bs_nil, bs_cons, b_some, frzE, own_I, own_L, own_T, own_K, n_add, n_mulL, n_mulR, n_sub, n_mod, n_div, n_lt, n_le, n_gt, n_ge, n_eq, n_ne, n_neg, ↓cmpr_map, ↓cmpA_map, ↓cmpA_range, cmpA_ok, cmpA_okc, cmpN_ok, cmpN_okc, cmpA_none, cmpN_none, gd_t, gd_k, r1_n, rng_t, rng_l, psk_ok, ix_t0, ix_t1, ix_t2, ix_t3, ix_t4, ix_m4, ix_m5, ix_dI, ix_lI, len_t, len_l, len_dI, len_lI, src_d, src_l, src_L, src_T, srcO_L, srcO_I, tup_l, tup_lI, tup_t, tup_dI, lst_dI, lst_lI, lst_t, fold_lI, fold_dI, sum_lI, cat_dI, tup1_n, tup0_n, lst0_n, papp_I, papp_L, fold_snoc, fold_set, pext_L, psetI_I, psetL_I, fold_l, fold_t, fold_l1, pss_l, pss_d, in_lI, in_dI, nin_lI, nin_dI, meOk_i, meOk_L, me_idx, sl_from, sl_to, plo_n, plo_j, isi_ni, isi_nb, isi_nt, isi_dt, isi_tt, isi_ss, all_b, any_b, eq_lI, eq_dI, ne_lI, ne_dI, int_b, min_n, max_n, mul_lI, cat_lI, sorted_I, eq_bb, ne_bb, map_dsnoc, sub_01, max_0j, ne_LD, ne_DD, r_rfrom, Am.cyc_len hA hs]
variable [Has DS "tail" 2 4 b_tail] [Has DS "rounds" 1 4 b_rounds]
theorem r_rounds (n : Nat) {M : Mk} (hM : M.ok) : runF DS (n + 6) "rounds" [M.d] = .ok (.tuple ((M.am.rds M.am.n).map dI)) := by
  have hA := Mk.am_ok hM
  have h64 := hA.le
  rw [run_has (n + 5) _ rfl]
  simp (disch := first | omega | with_reducible assumption | (simp only [List.length_cons, List.length_nil, List.length_append, List.length_map, List.length_range, Am.row_len]; omega)) only [b_rounds, v_c, v_g, v_v, v_bin, v_neg, v_cmp, v_chain, v_and, v_or, v_not, v_ix, v_sl, v_rev, v_tup, v_lst, v_call, v_bi, v_rng, v_srtSet, v_meth, v_isi, v_dnew, v_srtKey, vs_nil, vs_cons, vr_nil, vr_cons, vo_no, vo_so, vc_e, vc_own, vc_1, vc_2, vc_en, vc_zip, v_comp1, v_comp1c, v_comp2, x_pass, x_seq, x_frz, x_set, x_setO, x_unp, x_par, x_par3, x_iff, x_ret, x_retN, x_rai, x_exp, x_cont, x_for, x_whl, x_app, x_ext, x_pop0, x_setIx, own_s, kApp_L, kApp_I, kExt_L, kExt_I, kSet_L, kSet_I, kSet_T, kSet_K, R.bind_ok, R.fl_ok, R.nox_ok, then_kS, fl_kFor, then_rt, then_exc, toR_rt, toR_exc, asB_b, rd_val, rd_own, onx_s, List.getElem?_cons_zero, List.getElem?_cons_succ, List.set_cons_zero, List.set_cons_succ, List.map_cons, List.map_nil, List.cons_append, List.nil_append, List.replicate_succ, List.replicate_zero, Nat.reduceSub, Nat.sub_zero, cond_true, cond_false, cond_b1, cond_b2, Bool.not_true, Bool.not_false, List.length_cons, List.length_nil, Nat.zero_add, Nat.reduceAdd, b_nm, b_tup, bs_nil, bs_cons, b_some, frzE, own_I, own_L, own_T, own_K, n_add, n_mulL, n_mulR, n_sub, n_mod, n_div, n_lt, n_le, n_gt, n_ge, n_eq, n_ne, n_neg, ↓cmpr_map, ↓cmpA_map, ↓cmpA_range, cmpA_ok, cmpA_okc, cmpN_ok, cmpN_okc, cmpA_none, cmpN_none, gd_t, gd_k, r1_n, rng_t, rng_l, psk_ok, ix_t0, ix_t1, ix_t2, ix_t3, ix_t4, ix_m4, ix_m5, ix_dI, ix_lI, len_t, len_l, len_dI, len_lI, src_d, src_l, src_L, src_T, srcO_L, srcO_I, tup_l, tup_lI, tup_t, tup_dI, lst_dI, lst_lI, lst_t, fold_lI, fold_dI, sum_lI, cat_dI, tup1_n, tup0_n, lst0_n, papp_I, papp_L, fold_snoc, fold_set, pext_L, psetI_I, psetL_I, fold_l, fold_t, fold_l1, pss_l, pss_d, in_lI, in_dI, nin_lI, nin_dI, meOk_i, meOk_L, me_idx, sl_from, sl_to, plo_n, plo_j, isi_ni, isi_nb, isi_nt, isi_dt, isi_tt, isi_ss, all_b, any_b, eq_lI, eq_dI, ne_lI, ne_dI, int_b, min_n, max_n, mul_lI, cat_lI, sorted_I, eq_bb, ne_bb, map_dsnoc, sub_01, max_0j, ne_LD, ne_DD, r_stands]
  rw [forS_range (fun i => [.val M.d, .own (.list ((M.am.rds i).map dI)), lv i, .nul]) ?_ fun i hi => ?_]
  · simp (disch := first | omega | with_reducible assumption | (simp only [List.length_cons, List.length_nil, List.length_append, List.length_map, List.length_range, Am.row_len]; omega)) only [v_c, v_g, v_v, v_bin, v_neg, v_cmp, v_chain, v_and, v_or, v_not, v_ix, v_sl, v_rev, v_tup, v_lst, v_call, v_bi, v_rng, v_srtSet, v_meth, v_isi, v_dnew, v_srtKey, vs_nil, vs_cons, vr_nil, vr_cons, vo_no, vo_so, vc_e, vc_own, vc_1, vc_2, vc_en, vc_zip, v_comp1, v_comp1c, v_comp2, x_pass, x_seq, x_frz, x_set, x_setO, x_unp, x_par, x_par3, x_iff, x_ret, x_retN, x_rai, x_exp, x_cont, x_for, x_whl, x_app, x_ext, x_pop0, x_setIx, own_s, kApp_L, kApp_I, kExt_L, kExt_I, kSet_L, kSet_I, kSet_T, kSet_K, R.bind_ok, R.fl_ok, R.nox_ok, then_kS, fl_kFor, then_rt, then_exc, toR_rt, toR_exc, asB_b, rd_val, rd_own, onx_s, List.getElem?_cons_zero, List.getElem?_cons_succ, List.set_cons_zero, List.set_cons_succ, List.map_cons, List.map_nil, List.cons_append, List.nil_append, List.replicate_succ, List.replicate_zero, Nat.reduceSub, Nat.sub_zero, cond_true, cond_false, cond_b1, cond_b2, Bool.not_true, Bool.not_false, List.length_cons, List.length_nil, Nat.zero_add, Nat.reduceAdd, b_nm, b_tup, bs_nil, bs_cons, b_some, frzE, own_I, own_L, own_T, own_K, n_add, n_mulL, n_mulR, n_sub, n_mod, n_div, n_lt, n_le, n_gt, n_ge, n_eq, n_ne, n_neg, ↓cmpr_map, ↓cmpA_map, ↓cmpA_range, cmpA_ok, cmpA_okc, cmpN_ok, cmpN_okc, cmpA_none, cmpN_none, gd_t, gd_k, r1_n, rng_t, rng_l, psk_ok, ix_t0, ix_t1, ix_t2, ix_t3, ix_t4, ix_m4, ix_m5, ix_dI, ix_lI, len_t, len_l, len_dI, len_lI, src_d, src_l, src_L, src_T, srcO_L, srcO_I, tup_l, tup_lI, tup_t, tup_dI, lst_dI, lst_lI, lst_t, fold_lI, fold_dI, sum_lI, cat_dI, tup1_n, tup0_n, lst0_n, papp_I, papp_L, fold_snoc, fold_set, pext_L, psetI_I, psetL_I, fold_l, fold_t, fold_l1, pss_l, pss_d, in_lI, in_dI, nin_lI, nin_dI, meOk_i, meOk_L, me_idx, sl_from, sl_to, plo_n, plo_j, isi_ni, isi_nb, isi_nt, isi_dt, isi_tt, isi_ss, all_b, any_b, eq_lI, eq_dI, ne_lI, ne_dI, int_b, min_n, max_n, mul_lI, cat_lI, sorted_I, eq_bb, ne_bb, map_dsnoc, sub_01, max_0j, ne_LD, ne_DD]
  · rfl
  · have hl := Am.rds_len (A := M.am) i
    have hn := Am.isR_new hA hi
    simp +contextual (disch := first | omega | with_reducible assumption | (simp only [List.length_cons, List.length_nil, List.length_append, List.length_map, List.length_range, Am.row_len]; omega)) only [v_c, v_g, v_v, v_bin, v_neg, v_cmp, v_chain, v_and, v_or, v_not, v_ix, v_sl, v_rev, v_tup, v_lst, v_call, v_bi, v_rng, v_srtSet, v_meth, v_isi, v_dnew, v_srtKey, vs_nil, vs_cons, vr_nil, vr_cons, vo_no, vo_so, vc_e, vc_own, vc_1, vc_2, vc_en, vc_zip, v_comp1, v_comp1c, v_comp2, x_pass, x_seq, x_frz, x_set, x_setO, x_unp, x_par, x_par3, x_iff, x_ret, x_retN, x_rai, x_exp, x_cont, x_for, x_whl, x_app, x_ext, x_pop0, x_setIx, own_s, kApp_L, kApp_I, kExt_L, kExt_I, kSet_L, kSet_I, kSet_T, kSet_K, R.bind_ok, R.fl_ok, R.nox_ok, then_kS, fl_kFor, then_rt, then_exc, toR_rt, toR_exc, asB_b, rd_val, rd_own, onx_s, List.getElem?_cons_zero, List.getElem?_cons_succ, List.set_cons_zero, List.set_cons_succ, List.map_cons, List.map_nil, List.cons_append, List.nil_append, List.replicate_succ, List.replicate_zero, Nat.reduceSub, Nat.sub_zero, cond_true, cond_false, cond_b1, cond_b2, Bool.not_true, Bool.not_false, List.length_cons, List.length_nil, Nat.zero_add, Nat.reduceAdd, b_nm, b_tup, bs_nil, bs_cons, b_some, frzE, own_I, own_L, own_T, own_K, n_add, n_mulL, n_mulR, n_sub, n_mod, n_div, n_lt, n_le, n_gt, n_ge, n_eq, n_ne, n_neg, ↓cmpr_map, ↓cmpA_map, ↓cmpA_range, cmpA_ok, cmpA_okc, cmpN_ok, cmpN_okc, cmpA_none, cmpN_none, gd_t, gd_k, r1_n, rng_t, rng_l, psk_ok, ix_t0, ix_t1, ix_t2, ix_t3, ix_t4, ix_m4, ix_m5, ix_dI, ix_lI, len_t, len_l, len_dI, len_lI, src_d, src_l, src_L, src_T, srcO_L, srcO_I, tup_l, tup_lI, tup_t, tup_dI, lst_dI, lst_lI, lst_t, fold_lI, fold_dI, sum_lI, cat_dI, tup1_n, tup0_n, lst0_n, papp_I, papp_L, fold_snoc, fold_set, pext_L, psetI_I, psetL_I, fold_l, fold_t, fold_l1, pss_l, pss_d, in_lI, in_dI, nin_lI, nin_dI, meOk_i, meOk_L, me_idx, sl_from, sl_to, plo_n, plo_j, isi_ni, isi_nb, isi_nt, isi_dt, isi_tt, isi_ss, all_b, any_b, eq_lI, eq_dI, ne_lI, ne_dI, int_b, min_n, max_n, mul_lI, cat_lI, sorted_I, eq_bb, ne_bb, map_dsnoc, sub_01, max_0j, ne_LD, ne_DD, r_tail, r_rfrom, ← hn]
    rw [Am.rds_succ]
    cases M.am.isR i <;> rfl
end
section
variable {DS : List Def} [Has DS "power" 2 4 b_power] [Has DS "stands" 1 1 b_stands] [Has DS "step" 2 4 b_step] [Has DS "lost" 1 3 b_lost]
theorem r_lost (n : Nat) {M : Mk} (hM : M.ok) : runF DS (n + 4) "lost" [M.d] = .ok (dI M.am.los) := by
  have hA := Mk.am_ok hM
  have h64 := hA.le
  rw [run_has (n + 3) _ rfl]
  simp +contextual (disch := first | omega | with_reducible assumption | (simp only [List.length_cons, List.length_nil, List.length_append, List.length_map, List.length_range, Am.row_len]; omega)) only [b_lost, v_c, v_g, v_v, v_bin, v_neg, v_cmp, v_chain, v_and, v_or, v_not, v_ix, v_sl, v_rev, v_tup, v_lst, v_call, v_bi, v_rng, v_srtSet, v_meth, v_isi, v_dnew, v_srtKey, vs_nil, vs_cons, vr_nil, vr_cons, vo_no, vo_so, vc_e, vc_own, vc_1, vc_2, vc_en, vc_zip, v_comp1, v_comp1c, v_comp2, x_pass, x_seq, x_frz, x_set, x_setO, x_unp, x_par, x_par3, x_iff, x_ret, x_retN, x_rai, x_exp, x_cont, x_for, x_whl, x_app, x_ext, x_pop0, x_setIx, own_s, kApp_L, kApp_I, kExt_L, kExt_I, kSet_L, kSet_I, kSet_T, kSet_K, R.bind_ok, R.fl_ok, R.nox_ok, then_kS, fl_kFor, then_rt, then_exc, toR_rt, toR_exc, asB_b, rd_val, rd_own, onx_s, List.getElem?_cons_zero, List.getElem?_cons_succ, List.set_cons_zero, List.set_cons_succ, List.map_cons, List.map_nil, List.cons_append, List.nil_append, List.replicate_succ, List.replicate_zero, Nat.reduceSub, Nat.sub_zero, cond_true, cond_false, cond_b1, cond_b2, Bool.not_true, Bool.not_false, List.length_cons, List.length_nil, Nat.zero_add, Nat.reduceAdd, b_nm, b_tup, bs_nil, bs_cons, b_some, frzE, own_I, own_L, own_T, own_K, n_add, n_mulL, n_mulR, n_sub, n_mod, n_div, n_lt, n_le, n_gt, n_ge, n_eq, n_ne, n_neg, ↓cmpr_map, ↓cmpA_map, ↓cmpA_range, cmpA_ok, cmpA_okc, cmpN_ok, cmpN_okc, cmpA_none, cmpN_none, gd_t, gd_k, r1_n, rng_t, rng_l, psk_ok, ix_t0, ix_t1, ix_t2, ix_t3, ix_t4, ix_m4, ix_m5, ix_dI, ix_lI, len_t, len_l, len_dI, len_lI, src_d, src_l, src_L, src_T, srcO_L, srcO_I, tup_l, tup_lI, tup_t, tup_dI, lst_dI, lst_lI, lst_t, fold_lI, fold_dI, sum_lI, cat_dI, tup1_n, tup0_n, lst0_n, papp_I, papp_L, fold_snoc, fold_set, pext_L, psetI_I, psetL_I, fold_l, fold_t, fold_l1, pss_l, pss_d, in_lI, in_dI, nin_lI, nin_dI, meOk_i, meOk_L, me_idx, sl_from, sl_to, plo_n, plo_j, isi_ni, isi_nb, isi_nt, isi_dt, isi_tt, isi_ss, all_b, any_b, eq_lI, eq_dI, ne_lI, ne_dI, int_b, min_n, max_n, mul_lI, cat_lI, sorted_I, eq_bb, ne_bb, map_dsnoc, sub_01, max_0j, ne_LD, ne_DD, r_stands, r_step]
  rfl
end
end Iv
end

section
/-! As: stands given away; unlike stands differ soon. -/
namespace Iv
theorem insN_le {x : Nat} : ∀ l : List Nat, (insN x l).length ≤ l.length + 1
  | [] => Nat.le_refl _
  | y :: r => by
    unfold insN
    split
    · exact Nat.le_refl _
    · split
      · exact Nat.le_succ _
      · rw [List.length_cons, List.length_cons]; have := insN_le (x := x) r; omega
theorem sset_le : ∀ l : List Nat, (sset l).length ≤ l.length
  | [] => Nat.le_refl _
  | y :: r => by
    show (insN y (sset r)).length ≤ _
    have := insN_le (x := y) (sset r)
    have := sset_le r
    rw [List.length_cons]; omega
theorem filter_lt {α : Type} {p q : α → Bool} : ∀ {l : List α}, (∀ x ∈ l, p x = true → q x = true) → (∃ x ∈ l, q x = true ∧ p x = false) → (l.filter p).length < (l.filter q).length
  | [], _, ⟨x, hx, _⟩ => by cases hx
  | a :: l, h, ⟨x, hx, h1, h2⟩ => by
    have hl : ∀ {l : List α}, (∀ x ∈ l, p x = true → q x = true) → (l.filter p).length ≤ (l.filter q).length := by
      intro l
      induction l with
      | nil => intro _; exact Nat.le_refl _
      | cons a l ih =>
        intro h
        have ih := ih fun x hx => h x (.tail _ hx)
        rw [List.filter_cons, List.filter_cons]
        have ha := h a (.head _)
        cases hp : p a with
        | true => rw [if_pos rfl, if_pos (ha hp)]; simp only [List.length_cons]; omega
        | false =>
          rw [if_neg (by decide)]
          split
          · simp only [List.length_cons]; omega
          · exact ih
    rw [List.filter_cons, List.filter_cons]
    have ha := h a (.head _)
    have h' : ∀ x ∈ l, p x = true → q x = true := fun x hx => h x (.tail _ hx)
    rcases List.mem_cons.mp hx with rfl | hx
    · rw [h1, h2, if_neg (by decide), if_pos rfl, List.length_cons]
      have := hl h'
      omega
    · have ih := filter_lt h' ⟨x, hx, h1, h2⟩
      cases hp : p a with
      | true => rw [if_pos rfl, if_pos (ha hp)]; simp only [List.length_cons]; omega
      | false =>
        rw [if_neg (by decide)]
        split
        · simp only [List.length_cons]; omega
        · exact ih
namespace Am
variable {A : Am}
/-- the least of those from which the same so many faces come -/
def isM (A : Am) (m s : Nat) : Bool := (List.range s).all fun y => !leq (A.row y m) (A.row s m)
theorem isM_iff {m s : Nat} : A.isM m s = true ↔ ∀ y, y < s → A.row y m ≠ A.row s m := by
  unfold isM
  rw [List.all_eq_true]
  constructor
  · intro h y hy e
    have := h y (List.mem_range.mpr hy)
    rw [leq_t e] at this; cases this
  · intro h y hy
    rw [leq_f (h y (List.mem_range.mp hy))]; rfl
def sta (A : Am) (m : Nat) : Prop := ∀ x y, x < A.n → y < A.n → A.row x m = A.row y m → A.row x (m + 1) = A.row y (m + 1)
theorem row_pre {x y m : Nat} (h : A.row x (m + 1) = A.row y (m + 1)) : A.row x m = A.row y m := by
  rw [A.row_succ, A.row_succ] at h
  exact (List.append_inj h (by rw [A.row_len, A.row_len])).1
theorem row_pres {x y m : Nat} : ∀ {d : Nat}, A.row x (m + d) = A.row y (m + d) → A.row x m = A.row y m
  | 0, h => h
  | d + 1, h => row_pres (row_pre h)
theorem sta_succ (h : A.Ok) {m : Nat} (s : A.sta m) : A.sta (m + 1) := fun x y hx hy e => by
  have e' : A.g x :: A.row (A.f x) m = A.g y :: A.row (A.f y) m := e
  injection e' with e1 e2
  show A.g x :: A.row (A.f x) (m + 1) = A.g y :: A.row (A.f y) (m + 1)
  rw [e1, s _ _ (h.f_lt x) (h.f_lt y) e2]
theorem sta_all (h : A.Ok) {m : Nat} (s : A.sta m) {x y : Nat} (hx : x < A.n) (hy : y < A.n) (e : A.row x m = A.row y m) : ∀ k, A.row x k = A.row y k := by
  have st : ∀ d, A.sta (m + d) := fun d => by
    induction d with
    | zero => exact s
    | succ d ih => exact sta_succ h ih
  have up : ∀ d, A.row x (m + d) = A.row y (m + d) := fun d => by
    induction d with
    | zero => exact e
    | succ d ih => exact st d x y hx hy ih
  intro k
  exact row_pres (d := m) (by rw [Nat.add_comm]; exact up k)
theorem isM_up {m s : Nat} (h : A.isM m s = true) : A.isM (m + 1) s = true := isM_iff.mpr fun y hy e => isM_iff.mp h y hy (row_pre e)
/-- while not all is told, there are more and more sorts of stands -/
theorem sorts (m : Nat) (h : ¬ A.sta m) : ((List.range A.n).filter (A.isM m)).length < ((List.range A.n).filter (A.isM (m + 1))).length := by
  refine filter_lt (fun s _ q => isM_up q) ?_
  have h1 : ∃ x y, x < A.n ∧ y < A.n ∧ A.row x m = A.row y m ∧ A.row x (m + 1) ≠ A.row y (m + 1) := by
    refine Classical.byContradiction fun z => h fun x y hx hy e => Classical.byContradiction fun q => z ⟨x, y, hx, hy, e, q⟩
  obtain ⟨x, y, hx, hy, e, ne⟩ := h1
  obtain ⟨z, _, hz, hz2⟩ := least_of (p := fun z => A.row z m = A.row x m) (T := x) rfl
  have h2 : ∃ w, w < A.n ∧ A.row w m = A.row z m ∧ A.row w (m + 1) ≠ A.row z (m + 1) := by
    by_cases q : A.row x (m + 1) = A.row z (m + 1)
    · exact ⟨y, hy, by rw [← e, hz], fun k => ne (by rw [q, k])⟩
    · exact ⟨x, hx, hz.symm, q⟩
  obtain ⟨w0, hw0, hw1, hw2⟩ := h2
  obtain ⟨w, hw, ⟨hw3, hw4⟩, hw5⟩ := least_of (p := fun w => A.row w m = A.row z m ∧ A.row w (m + 1) ≠ A.row z (m + 1)) (T := w0) ⟨hw1, hw2⟩
  refine ⟨w, List.mem_range.mpr (by omega), isM_iff.mpr fun y' hy' e' => ?_, ?_⟩
  · refine hw5 y' hy' ⟨by rw [row_pre e', hw3], by rw [e']; exact hw4⟩
  · have hzw : z < w := by
      rcases Nat.lt_trichotomy z w with k | k | k
      · exact k
      · subst k; exact (hw4 rfl).elim
      · exact (hz2 w k (by rw [hw3, hz])).elim
    cases q : A.isM m w with
    | false => rfl
    | true => exact (isM_iff.mp q z hzw hw3.symm).elim
/-- stands from which as many faces are drawn alike as there are stands, but one, are alike for ever -/
theorem moore (h : A.Ok) {x y : Nat} (hx : x < A.n) (hy : y < A.n) (e : A.row x (A.n - 1) = A.row y (A.n - 1)) : ∀ k, A.row x k = A.row y k := by
  have hp := h.pos
  have hex : ∃ m, m ≤ A.n - 1 ∧ A.sta m := by
    refine Classical.byContradiction fun q => ?_
    have ns : ∀ m, m ≤ A.n - 1 → ¬ A.sta m := fun m hm s => q ⟨m, hm, s⟩
    have gr : ∀ m, m ≤ A.n → m + 1 ≤ ((List.range A.n).filter (A.isM m)).length := fun m => by
      induction m with
      | zero =>
        intro _
        have : (0 : Nat) ∈ (List.range A.n).filter (A.isM 0) := List.mem_filter.mpr ⟨List.mem_range.mpr hp, isM_iff.mpr fun y hy => (Nat.not_lt_zero _ hy).elim⟩
        exact List.length_pos_of_mem this
      | succ m ih =>
        intro hm
        have := sorts m (ns m (by omega))
        have := ih (by omega)
        omega
    have g := gr A.n (Nat.le_refl _)
    have := List.length_filter_le (A.isM A.n) (List.range A.n)
    rw [List.length_range] at this
    omega
  obtain ⟨m, hm, s⟩ := hex
  refine sta_all h s hx hy (row_pres (d := A.n - 1 - m) ?_)
  rw [show m + (A.n - 1 - m) = A.n - 1 by omega]
  exact e
/-- where one may be behind so many faces from a stand -/
def stn (A : Am) (s t : Nat) : List Nat := A.ats (A.row s t)
theorem stn_succ (s t : Nat) : A.stn s (t + 1) = A.nxt (A.stn s t) (A.g (A.go s t)) := by
  unfold stn; rw [A.row_succ, A.ats_snoc]
theorem mem_stn (h : A.Ok) {s t y : Nat} : y ∈ A.stn s t ↔ ∃ x, x < A.n ∧ A.row x t = A.row s t ∧ A.go x t = y := by
  unfold stn; rw [mem_ats h, A.row_len]
theorem stn_self (h : A.Ok) {s : Nat} (hs : s < A.n) (t : Nat) : A.go s t ∈ A.stn s t := (mem_stn h).mpr ⟨s, hs, rfl, rfl⟩
theorem stn_pos (h : A.Ok) {s : Nat} (hs : s < A.n) (t : Nat) : 1 ≤ (A.stn s t).length := List.length_pos_of_mem (stn_self h hs t)
theorem nxt_le (l : List Nat) (c : Nat) : (A.nxt l c).length ≤ l.length := by
  unfold nxt
  refine Nat.le_trans (sset_le _) ?_
  rw [List.length_map]
  exact List.length_filter_le _ _
theorem stn_anti (s t : Nat) : ∀ d, (A.stn s (t + d)).length ≤ (A.stn s t).length
  | 0 => Nat.le_refl _
  | d + 1 => by
    rw [show t + (d + 1) = (t + d) + 1 by omega, stn_succ]
    exact Nat.le_trans (nxt_le _ _) (stn_anti s t d)
theorem stn_good (h : A.Ok) (s t : Nat) : (A.stn s t).Pairwise (· < ·) ∧ (∀ y ∈ A.stn s t, y < A.n) ∧ (A.stn s t).length ≤ A.n := ats_good h _
theorem stn_det {s i j : Nat} (e1 : A.stn s i = A.stn s j) (e2 : A.go s i = A.go s j) : ∀ d, A.stn s (i + d) = A.stn s (j + d) ∧ A.go s (i + d) = A.go s (j + d)
  | 0 => ⟨e1, e2⟩
  | d + 1 => by
    obtain ⟨a, b⟩ := stn_det e1 e2 d
    rw [show i + (d + 1) = (i + d) + 1 by omega, show j + (d + 1) = (j + d) + 1 by omega, stn_succ, stn_succ, A.go_succ, A.go_succ, a, b]
    exact ⟨rfl, rfl⟩
/-- behind a stand told twice nothing more is told -/
theorem stn_never (h : A.Ok) {s : Nat} {i j : Nat} (hij : i < j) (e1 : A.stn s j = A.stn s i) (e2 : A.go s j = A.go s i) (h2 : 2 ≤ (A.stn s i).length) : ∀ t, 2 ≤ (A.stn s t).length := by
  have per : ∀ m, A.stn s (i + m * (j - i)) = A.stn s i ∧ A.go s (i + m * (j - i)) = A.go s i := fun m => by
    induction m with
    | zero => rw [Nat.zero_mul]; exact ⟨rfl, rfl⟩
    | succ m ih =>
      obtain ⟨a, b⟩ := stn_det e1 e2 (m * (j - i))
      have e : i + (m + 1) * (j - i) = j + m * (j - i) := by rw [Nat.succ_mul]; omega
      rw [e, a, b]; exact ih
  intro t
  have p := (per t).1
  have le : t ≤ i + t * (j - i) := by
    have : t * 1 ≤ t * (j - i) := Nat.mul_le_mul_left _ (by omega)
    omega
  have := stn_anti (A := A) s t (i + t * (j - i) - t)
  rw [show t + (i + t * (j - i) - t) = i + t * (j - i) by omega, p] at this
  omega
/-- all go round together -/
def Per (A : Am) (t0 L : Nat) : Prop := 1 ≤ L ∧ ∀ x, x < A.n → A.go x (t0 + L) = A.go x t0
theorem Per.from {t0 L t : Nat} (p : A.Per t0 L) (ht : t0 ≤ t) {x : Nat} (hx : x < A.n) : A.go x (t + L) = A.go x t := by
  obtain ⟨d, rfl⟩ := Nat.exists_eq_add_of_le ht
  rw [show t0 + d + L = t0 + L + d by omega, A.go_add, p.2 x hx, ← A.go_add]
theorem stn_per (h : A.Ok) {s t0 L t : Nat} (hs : s < A.n) (p : A.Per t0 L) (h0 : t0 ≤ t) (h1 : A.n - 1 ≤ t) : A.stn s (t + L) = A.stn s t ∧ A.go s (t + L) = A.go s t := by
  have al : ∀ {x u : Nat}, x < A.n → A.n - 1 ≤ u → A.row x u = A.row s u → ∀ k, A.row x k = A.row s k := fun {x u} hx hu e =>
    moore h hx hs (row_pres (d := u - (A.n - 1)) (by rw [show A.n - 1 + (u - (A.n - 1)) = u by omega]; exact e))
  refine ⟨incN_unique (stn_good h s _).1 (stn_good h s _).1 fun y => ?_, p.from h0 hs⟩
  rw [mem_stn h, mem_stn h]
  constructor
  · rintro ⟨x, hx, e, rfl⟩
    exact ⟨x, hx, al hx (by omega) e t, (p.from h0 hx).symm⟩
  · rintro ⟨x, hx, e, rfl⟩
    exact ⟨x, hx, al hx h1 e _, p.from h0 hx⟩
/-- how many faces leave one stand -/
noncomputable def sur (A : Am) (s : Nat) : Option Nat := by
  classical
  exact if h : ∃ t, (A.stn s t).length = 1 ∧ ∀ j, j < t → (A.stn s j).length ≠ 1 then some (Classical.choose h) else none
theorem sur_some {s t : Nat} (h1 : (A.stn s t).length = 1) (h2 : ∀ j, j < t → (A.stn s j).length ≠ 1) : A.sur s = some t := by
  have hex : ∃ t, (A.stn s t).length = 1 ∧ ∀ j, j < t → (A.stn s j).length ≠ 1 := ⟨t, h1, h2⟩
  unfold sur
  rw [dif_pos hex]
  obtain ⟨g1, g2⟩ := Classical.choose_spec hex
  congr 1
  rcases Nat.lt_trichotomy (Classical.choose hex) t with k | k | k
  · exact (h2 _ k g1).elim
  · exact k
  · exact (g2 _ k h1).elim
theorem sur_none {s : Nat} (h : ∀ t, (A.stn s t).length ≠ 1) : A.sur s = none := by
  unfold sur
  rw [dif_neg (fun ⟨t, h1, _⟩ => h t h1)]
theorem sur_get {s t : Nat} (h : A.sur s = some t) : (A.stn s t).length = 1 ∧ ∀ j, j < t → (A.stn s j).length ≠ 1 := by
  by_cases q : ∃ t, (A.stn s t).length = 1
  · obtain ⟨T, hT⟩ := q
    obtain ⟨T', _, h1, h2⟩ := least_of (p := fun t => (A.stn s t).length = 1) hT
    rw [sur_some h1 h2] at h
    cases h
    exact ⟨h1, h2⟩
  · rw [sur_none fun t e => q ⟨t, e⟩] at h; cases h
theorem sur_no {s : Nat} (h : A.sur s = none) : ∀ t, (A.stn s t).length ≠ 1 := fun t e => by
  obtain ⟨T', _, h1, h2⟩ := least_of (p := fun t => (A.stn s t).length = 1) e
  rw [sur_some h1 h2] at h; cases h
/-! ### all rounds together -/
theorem cube_le : ∀ c : Nat, c ^ 3 ≤ 3 ^ c
  | 0 => by decide
  | 1 => by decide
  | 2 => by decide
  | 3 => by decide
  | c + 4 => by
    have ih := cube_le (c + 3)
    have e : (3 : Nat) ^ (c + 4) = 3 * 3 ^ (c + 3) := by rw [show c + 4 = (c + 3) + 1 by omega, Nat.pow_succ, Nat.mul_comm]
    rw [e]
    refine Nat.le_trans ?_ (Nat.mul_le_mul_left 3 ih)
    generalize hz : c + 3 = z
    rw [show c + 4 = z + 1 by omega]
    have h3 : 3 ≤ z := by omega
    have e3 : ∀ z : Nat, z ^ 3 = z * z * z := fun z => by rw [Nat.pow_succ, Nat.pow_succ, Nat.pow_one]
    rw [e3, e3]
    have a1 : 3 * z ≤ z * z := Nat.mul_le_mul_right z h3
    have a2 : 3 * (z * z) ≤ z * (z * z) := Nat.mul_le_mul_right _ h3
    have a3 : z * z * z = z * (z * z) := Nat.mul_assoc _ _ _
    have a4 : (z + 1) * (z + 1) * (z + 1) = z * (z * z) + 3 * (z * z) + 3 * z + 1 := by
      simp only [Nat.add_mul, Nat.mul_add, Nat.one_mul, Nat.mul_one, Nat.mul_assoc]; omega
    rw [a3, a4]
    omega
def prd (l : List Nat) : Nat := l.foldr (· * ·) 1
theorem prd_cube : ∀ l : List Nat, prd l ^ 3 ≤ 3 ^ l.sum
  | [] => by decide
  | c :: l => by
    show (c * prd l) ^ 3 ≤ _
    rw [List.sum_cons, Nat.mul_pow, Nat.pow_add]
    exact Nat.mul_le_mul (cube_le c) (prd_cube l)
theorem prd_dvd {c : Nat} : ∀ {l : List Nat}, c ∈ l → c ∣ prd l
  | x :: l, h => by
    show c ∣ x * prd l
    rcases List.mem_cons.mp h with rfl | h
    · exact Nat.dvd_mul_right _ _
    · exact Nat.dvd_trans (prd_dvd h) (Nat.dvd_mul_left _ _)
theorem prd_pos : ∀ {l : List Nat}, (∀ x ∈ l, 1 ≤ x) → 1 ≤ prd l
  | [], _ => Nat.le_refl _
  | x :: l, h => Nat.mul_pos (h x (.head _)) (prd_pos fun y hy => h y (.tail _ hy))
theorem rds_lens (h : A.Ok) {x : Nat} (hx : x < A.n) : A.rd x ∈ (A.rds A.n).map List.length := by
  obtain ⟨e1, e2, _⟩ := end_tl h hx
  obtain ⟨c, hc, hl⟩ := (rds_filter h (go_lt h hx (A.tl x))).1 e1
  have : c ∈ (A.rds A.n).filter (fun c => decide (A.go x (A.tl x) ∈ c)) := by rw [hc]; exact .head _
  exact List.mem_map.mpr ⟨c, (List.mem_filter.mp this).1, by rw [hl, e2]⟩
noncomputable def pd (A : Am) : Nat := prd ((A.rds A.n).map List.length)
theorem per_pd (h : A.Ok) : A.Per A.n A.pd := by
  refine ⟨prd_pos fun c hc => ?_, fun x hx => ?_⟩
  · obtain ⟨l, hl, rfl⟩ := List.mem_map.mp hc
    obtain ⟨s, hs, _, rfl⟩ := A.mem_rds.mp hl
    rw [cyc_len h hs]
    exact (tl_lt h hs).2.1
  · obtain ⟨k, hk⟩ := prd_dvd (rds_lens h hx)
    obtain ⟨R, hl, _⟩ := rho h hx
    have ht := (tl_lt h hx).1
    have e := R.mul (A.n - A.tl x) k
    rw [show A.tl x + (A.n - A.tl x) = A.n by omega] at e
    unfold pd
    rw [hk, Nat.mul_comm]
    exact e
theorem pd_cube (h : A.Ok) : A.pd ^ 3 ≤ 3 ^ A.n := Nat.le_trans (prd_cube _) (Nat.pow_le_pow_right (by decide) (rds_sum h))
theorem pd_20 (h : A.Ok) (hn : A.n ≤ 20) : A.pd ≤ 1516 := by
  refine Classical.byContradiction fun q => ?_
  have a := pd_cube h
  have b : (3 : Nat) ^ A.n ≤ 3 ^ 20 := Nat.pow_le_pow_right (by decide) hn
  have c : (1517 : Nat) ^ 3 ≤ A.pd ^ 3 := Nat.pow_le_pow_left (by omega) 3
  have d : (3 : Nat) ^ 20 < 1517 ^ 3 := by decide
  omega
theorem pd_40 (h : A.Ok) (hn : A.n ≤ 40) : A.pd ≤ 2300000 := by
  refine Classical.byContradiction fun q => ?_
  have a := pd_cube h
  have b : (3 : Nat) ^ A.n ≤ 3 ^ 40 := Nat.pow_le_pow_right (by decide) hn
  have c : (2300001 : Nat) ^ 3 ≤ A.pd ^ 3 := Nat.pow_le_pow_left (by omega) 3
  have d : (3 : Nat) ^ 40 < 2300001 ^ 3 := by decide
  omega
end Am
end Iv
end

section
namespace Iv
open PySem
/-! ### dicts told by lists of keys -/
theorem toKeys_nI : ∀ l : List Nat, toKeys (l.map nI) = some (l.map fun (i : Nat) => NestedKey.num i)
  | [] => by rw [List.map_nil, toKeys]; rfl
  | a :: l => by
    rw [List.map_cons, toKeys, toKeys_nI l]
    unfold nI
    rw [toKey]; rfl
theorem toKey_dI (l : List Nat) : toKey (dI l) = some (.tup (l.map fun (i : Nat) => NestedKey.num i)) := by
  unfold dI
  rw [toKey, toKeys_nI]; rfl
theorem depth_nums : ∀ l : List Nat, NestedKey.depthAll (l.map fun (i : Nat) => NestedKey.num i) = 0
  | [] => by rw [List.map_nil, NestedKey.depthAll]
  | a :: l => by rw [List.map_cons, NestedKey.depthAll, NestedKey.depth, depth_nums l]; rfl
theorem nums_inj {l l' : List Nat} (h : (l.map fun (i : Nat) => NestedKey.num i) = l'.map fun (i : Nat) => NestedKey.num i) : l = l' := by
  induction l generalizing l' with
  | nil => cases l' with
    | nil => rfl
    | cons b l' => cases h
  | cons a l ih => cases l' with
    | nil => cases h
    | cons b l' =>
      rw [List.map_cons, List.map_cons] at h
      injection h with h1 h2
      injection h1 with h1
      rw [ih h2, Int.ofNat_inj.mp h1]
/-- stands, and a stand -/
def kP (p : List Nat × Nat) : PyData := .tuple [dI p.1, nI p.2]
theorem toKey_kP (p : List Nat × Nat) : toKey (kP p) = some (.tup [.tup (p.1.map fun (i : Nat) => NestedKey.num i), .num p.2]) := by
  unfold kP
  rw [toKey, toKeys, toKeys, toKeys, toKey_dI]
  unfold nI
  rw [toKey]; rfl
theorem keyOk_kP (p : List Nat × Nat) : keyOk true (kP p) = true := by
  unfold keyOk
  rw [if_pos rfl, toKey_kP]
  show (true && decide (NestedKey.depth _ ≤ 8)) = true
  rw [NestedKey.depth, NestedKey.depthAll, NestedKey.depth, depth_nums, NestedKey.depthAll, NestedKey.depth, NestedKey.depthAll]
  rfl
theorem same_kP (p q : List Nat × Nat) : sameKey (kP p) (kP q) = decide (p = q) := by
  unfold sameKey
  rw [toKey_kP, toKey_kP]
  rw [Bool.eq_iff_iff, decide_eq_true_eq, decide_eq_true_eq]
  constructor
  · intro h
    injection h with h
    injection h with h1 h2
    injection h1 with h1
    injection h2 with h2
    injection h2 with h2
    exact Prod.ext (nums_inj h1) (Int.ofNat_inj.mp h2)
  · intro h; rw [h]
/-- two stands -/
def kN (p : Nat × Nat) : PyData := dI [p.1, p.2]
theorem keyOk_dI (l : List Nat) : keyOk true (dI l) = true := by
  unfold keyOk
  rw [if_pos rfl, toKey_dI]
  show (true && decide (NestedKey.depth _ ≤ 8)) = true
  rw [NestedKey.depth, depth_nums]
  rfl
theorem same_dI (l l' : List Nat) : sameKey (dI l) (dI l') = decide (l = l') := by
  unfold sameKey
  rw [toKey_dI, toKey_dI, Bool.eq_iff_iff, decide_eq_true_eq, decide_eq_true_eq]
  constructor
  · intro h
    injection h with h
    exact nums_inj h
  · intro h; rw [h]
section
variable {α : Type} [DecidableEq α] {enc : α → PyData} (hs : ∀ a b, sameKey (enc a) (enc b) = decide (a = b)) (v : PyData)
include hs
theorem dget_enc (a : α) : ∀ l : List α, (dget (enc a) (l.map fun b => (enc b, v))).isSome = true ↔ a ∈ l
  | [] => ⟨fun h => (nomatch h), fun h => (nomatch h)⟩
  | b :: l => by
    rw [List.map_cons, dget, hs]
    by_cases h : b = a
    · subst h; rw [decide_eq_true rfl]; exact ⟨fun _ => .head _, fun _ => rfl⟩
    · rw [decide_eq_false h]
      show (dget (enc a) (l.map fun b => (enc b, v))).isSome = true ↔ _
      rw [dget_enc a l, List.mem_cons]
      exact ⟨.inr, fun z => z.resolve_left fun e => h e.symm⟩
theorem dput_enc {a : α} : ∀ {l : List α}, a ∉ l → dput (enc a) v (l.map fun b => (enc b, v)) = (l ++ [a]).map fun b => (enc b, v)
  | [], _ => rfl
  | b :: l, h => by
    have hb : ¬ b = a := fun e => h (by rw [e]; exact .head _)
    rw [List.map_cons, dput, hs, decide_eq_false hb]
    show (enc b, v) :: dput (enc a) v (l.map fun b => (enc b, v)) = _
    rw [dput_enc fun z => h (.tail _ z)]; rfl
end
def sP (l : List (List Nat × Nat)) : PyData := dictT (l.map fun p => (kP p, .bool true))
theorem in_sP (l : List Nat) (s : Nat) (d : List (List Nat × Nat)) : pcmp .isin (.tuple [dI l, nI s]) (sP d) = .ok (decide ((l, s) ∈ d)) := by
  show (if keyOk true (kP (l, s)) then R.ok (dget (kP (l, s)) _).isSome else .bad) = _
  rw [if_pos (keyOk_kP _)]
  refine congrArg R.ok (Bool.eq_iff_iff.mpr ?_)
  rw [dget_enc same_kP, decide_eq_true_eq]
theorem own_sP (d : List (List Nat × Nat)) : isOwn (sP d) = true := Eq.trans rfl rfl
theorem sP_nil : dictT [] = sP [] := Eq.trans rfl rfl
section
variable {F : Str → List PyData → R PyData} {ρ : Iv.Env}
theorem kSet_sP (i : Nat) (k : E) (d : PyData) (l : List (List Nat × Nat)) : kSet F i k ρ d (sP l) = (ev F false k ρ).fl fun kd => (psetT (l.map fun p => (kP p, .bool true)) kd d).fl fun y => .nx (ρ.set i (.own y)) := Eq.trans rfl rfl
end
theorem pset_sP (l : List Nat) (s : Nat) {d : List (List Nat × Nat)} (h : (l, s) ∉ d) (hl : d.length < 8000000) : psetT (d.map fun p => (kP p, .bool true)) (.tuple [dI l, nI s]) (.bool true) = .ok (sP (d ++ [(l, s)])) := by
  show (if (keyOk true (kP (l, s)) && decide (_ < DLIM)) = true then R.ok (dictT (dput (kP (l, s)) _ _)) else .bad) = _
  rw [keyOk_kP, List.length_map, DLIM_eq, decide_eq_true hl, if_pos (by rfl), dput_enc same_kP _ h]; rfl
/-! ### a number, or none -/
def oI : Option Nat → PyData
  | none => .none
  | some n => nI n
/-! ### while, up to a turn -/
theorem whl_run {F : Str → List PyData → R PyData} {c : E} {b : S} (ρ : Nat → Iv.Env) : ∀ (T i N : Nat), (∀ j, j < T → (ev F false c (ρ (i + j))).bind asB = .ok true ∧ ex F b (ρ (i + j)) = .nx (ρ (i + j + 1))) → T < N → whlS F c b N (ρ i) = whlS F c b (N - T) (ρ (i + T))
  | 0, i, N, _, _ => rfl
  | T + 1, i, N, h, hN => by
    obtain ⟨N, rfl⟩ : ∃ n, N = n + 1 := ⟨N - 1, by omega⟩
    obtain ⟨h1, h2⟩ := h 0 (by omega)
    rw [Nat.add_zero] at h1 h2
    rw [whl_t h1 h2]
    have := whl_run ρ T (i + 1) N (fun j hj => by
      have := h (j + 1) (by omega)
      rw [show i + (j + 1) = i + 1 + j by omega] at this
      exact this) (by omega)
    show whlS F c b N (ρ (i + 1)) = _
    rw [this, show N + 1 - (T + 1) = N - T by omega, show i + (T + 1) = i + 1 + T by omega]
theorem whl_rt {F : Str → List PyData → R PyData} {c : E} {b : S} {n : Nat} {ρ : Iv.Env} {d : PyData} (hc : (ev F false c ρ).bind asB = .ok true) (hb : ex F b ρ = .rt d) (hn : 0 < n) : whlS F c b n ρ = .rt d := by
  obtain ⟨n, rfl⟩ : ∃ m, n = m + 1 := ⟨n - 1, by omega⟩
  show whileL _ _ (n + 1) ρ = _
  rw [whileL, hc, R.fl_ok, if_pos rfl, hb]
theorem whl_fn {F : Str → List PyData → R PyData} {c : E} {b : S} {n : Nat} {ρ : Iv.Env} (hc : (ev F false c ρ).bind asB = .ok false) (hn : 0 < n) : whlS F c b n ρ = .nx ρ := by
  obtain ⟨n, rfl⟩ : ∃ m, n = m + 1 := ⟨n - 1, by omega⟩
  exact whl_f hc
end Iv
end

section
namespace Iv
open PySem
def b_sure_L : S := (.seq (.iff (.cmp .isin (.tup (.cons (.v 2) (.cons (.v 1) .nil))) (.v 3)) (.ret (.c .none)) .pass) (.seq (.setIx 3 (.tup (.cons (.v 2) (.cons (.v 1) .nil))) (.c (.bool true))) (.seq (.set 2 (.call "next_stands" (.cons (.v 0) (.cons (.v 2) (.cons (.call "face" (.cons (.v 0) (.cons (.v 1) .nil))) .nil))))) (.seq (.set 1 (.call "step" (.cons (.v 0) (.cons (.v 1) .nil)))) (.set 4 (.bin .add (.v 4) (.c (nI 1))))))))
def b_sure : S := (.seq (.set 2 (.rng true (.call "stands" (.cons (.v 0) .nil)))) (.seq (.setO 3 (.dnew true)) (.seq (.set 4 (.c (nI 0))) (.seq (.whl (.cmp .gt (.bi .len (.cons (.v 2) .nil)) (.c (nI 1))) b_sure_L) (.ret (.v 4))))))
def b_surest : S := (.seq (.set 1 (.comp (.nm 2) (.r1 (.call "stands" (.cons (.v 0) .nil))) .no (.call "sure" (.cons (.v 0) (.cons (.v 2) .nil))) [2])) (.seq (.iff (.cmp .isin (.c .none) (.v 1)) (.ret (.c .none)) .pass) (.ret (.bi .max (.cons (.v 1) .nil)))))
namespace Am
variable {A : Am}
/-- what sure has seen -/
def sns (A : Am) (s t : Nat) : List (List Nat × Nat) := (List.range t).map fun j => (A.stn s j, A.go s j)
theorem sns_succ (s t : Nat) : A.sns s (t + 1) = A.sns s t ++ [(A.stn s t, A.go s t)] := by
  unfold sns; rw [List.range_succ, List.map_append]; rfl
theorem mem_sns {s t : Nat} {p : List Nat × Nat} : p ∈ A.sns s t ↔ ∃ j, j < t ∧ (A.stn s j, A.go s j) = p := by
  unfold sns; rw [List.mem_map]
  exact ⟨fun ⟨j, h, e⟩ => ⟨j, List.mem_range.mp h, e⟩, fun ⟨j, h, e⟩ => ⟨j, List.mem_range.mpr h, e⟩⟩
/-- where sure comes to its end -/
theorem sure_end (h : A.Ok) {s t0 L : Nat} (hs : s < A.n) (p : A.Per t0 L) : ∃ T, T ≤ A.n + t0 + L ∧ ((A.stn s T).length ≤ 1 ∨ (A.stn s T, A.go s T) ∈ A.sns s T) ∧ ∀ j, j < T → 1 < (A.stn s j).length ∧ (A.stn s j, A.go s j) ∉ A.sns s j := by
  have hex : (A.stn s (A.n + t0 + L)).length ≤ 1 ∨ (A.stn s (A.n + t0 + L), A.go s (A.n + t0 + L)) ∈ A.sns s (A.n + t0 + L) := by
    obtain ⟨e1, e2⟩ := stn_per (t := A.n + t0) h hs p (by omega) (by omega)
    exact .inr (mem_sns.mpr ⟨A.n + t0, by have := p.1; omega, by rw [e1, e2]⟩)
  obtain ⟨T, h1, h2, h3⟩ := least_of (p := fun T => (A.stn s T).length ≤ 1 ∨ (A.stn s T, A.go s T) ∈ A.sns s T) hex
  exact ⟨T, h1, h2, fun j hj => ⟨Nat.lt_of_not_le fun z => h3 j hj (.inl z), fun z => h3 j hj (.inr z)⟩⟩
end Am
section
variable {DS : List Def} [Has DS "power" 2 4 b_power] [Has DS "stands" 1 1 b_stands] [Has DS "step" 2 4 b_step] [Has DS "face" 2 2 b_face] [Has DS "next_stands" 3 4 b_next_stands] [Has DS "sure" 2 5 b_sure]
theorem r_sure (n : Nat) {M : Mk} (hM : M.ok) {s : Nat} (hs : s < M.am.n) {t0 L : Nat} (p : M.am.Per t0 L) (hb : t0 + L < 7000000) : runF DS (n + 5) "sure" [M.d, nI s] = .ok (oI (M.am.sur s)) := by
  have hA := Mk.am_ok hM
  have h64 := hA.le
  rw [run_has (n + 4) _ rfl]
  have g := fun t => Am.stn_good hA s t
  have e0 : M.am.stn s 0 = List.range M.am.n := rfl
  simp +contextual (disch := first | omega | with_reducible assumption | (simp only [List.length_cons, List.length_nil, List.length_append, List.length_map, List.length_range, Am.row_len]; omega)) only [b_sure, v_c, v_g, v_v, v_bin, v_neg, v_cmp, v_chain, v_and, v_or, v_not, v_ix, v_sl, v_rev, v_tup, v_lst, v_call, v_bi, v_rng, v_srtSet, v_meth, v_isi, v_dnew, v_srtKey, vs_nil, vs_cons, vr_nil, vr_cons, vo_no, vo_so, vc_e, vc_own, vc_1, vc_2, vc_en, vc_zip, v_comp1, v_comp1c, v_comp2, x_pass, x_seq, x_frz, x_set, x_setO, x_unp, x_par, x_par3, x_iff, x_ret, x_retN, x_rai, x_exp, x_cont, x_for, x_whl, x_app, x_ext, x_pop0, x_setIx, own_s, kApp_L, kApp_I, kExt_L, kExt_I, kSet_L, kSet_I, kSet_T, kSet_K, R.bind_ok, R.fl_ok, R.nox_ok, then_kS, fl_kFor, then_rt, then_exc, toR_rt, toR_exc, asB_b, rd_val, rd_own, onx_s, List.getElem?_cons_zero, List.getElem?_cons_succ, List.set_cons_zero, List.set_cons_succ, List.map_cons, List.map_nil, List.cons_append, List.nil_append, List.replicate_succ, List.replicate_zero, Nat.reduceSub, Nat.sub_zero, cond_true, cond_false, cond_b1, cond_b2, Bool.not_true, Bool.not_false, List.length_cons, List.length_nil, Nat.zero_add, Nat.reduceAdd, b_nm, b_tup, bs_nil, bs_cons, b_some, frzE, own_I, own_L, own_T, own_K, n_add, n_mulL, n_mulR, n_sub, n_mod, n_div, n_lt, n_le, n_gt, n_ge, n_eq, n_ne, n_neg, ↓cmpr_map, ↓cmpA_map, ↓cmpA_range, cmpA_ok, cmpA_okc, cmpN_ok, cmpN_okc, cmpA_none, cmpN_none, gd_t, gd_k, r1_n, rng_t, rng_l, psk_ok, ix_t0, ix_t1, ix_t2, ix_t3, ix_t4, ix_m4, ix_m5, ix_dI, ix_lI, len_t, len_l, len_dI, len_lI, src_d, src_l, src_L, src_T, srcO_L, srcO_I, tup_l, tup_lI, tup_t, tup_dI, lst_dI, lst_lI, lst_t, fold_lI, fold_dI, sum_lI, cat_dI, tup1_n, tup0_n, lst0_n, papp_I, papp_L, fold_snoc, fold_set, pext_L, psetI_I, psetL_I, fold_l, fold_t, fold_l1, pss_l, pss_d, in_lI, in_dI, nin_lI, nin_dI, meOk_i, meOk_L, me_idx, sl_from, sl_to, plo_n, plo_j, isi_ni, isi_nb, isi_nt, isi_dt, isi_tt, isi_ss, all_b, any_b, eq_lI, eq_dI, ne_lI, ne_dI, int_b, min_n, max_n, mul_lI, cat_lI, sorted_I, eq_bb, ne_bb, map_dsnoc, sub_01, max_0j, ne_LD, ne_DD, r_stands, sP_nil, own_sP]
  have hc : ∀ i, (ev (runF DS (n + 4)) false (.cmp .gt (.bi .len (.cons (.v 2) .nil)) (.c (nI 1))) [.val M.d, .val (nI (M.am.go s i)), .val (dI (M.am.stn s i)), .own (sP (M.am.sns s i)), .val (nI i)]).bind asB = .ok (decide (1 < (M.am.stn s i).length)) := fun i => by
    simp (disch := first | omega | with_reducible assumption | (simp only [List.length_cons, List.length_nil, List.length_append, List.length_map, List.length_range, Am.row_len]; omega)) only [v_c, v_g, v_v, v_bin, v_neg, v_cmp, v_chain, v_and, v_or, v_not, v_ix, v_sl, v_rev, v_tup, v_lst, v_call, v_bi, v_rng, v_srtSet, v_meth, v_isi, v_dnew, v_srtKey, vs_nil, vs_cons, vr_nil, vr_cons, vo_no, vo_so, vc_e, vc_own, vc_1, vc_2, vc_en, vc_zip, v_comp1, v_comp1c, v_comp2, x_pass, x_seq, x_frz, x_set, x_setO, x_unp, x_par, x_par3, x_iff, x_ret, x_retN, x_rai, x_exp, x_cont, x_for, x_whl, x_app, x_ext, x_pop0, x_setIx, own_s, kApp_L, kApp_I, kExt_L, kExt_I, kSet_L, kSet_I, kSet_T, kSet_K, R.bind_ok, R.fl_ok, R.nox_ok, then_kS, fl_kFor, then_rt, then_exc, toR_rt, toR_exc, asB_b, rd_val, rd_own, onx_s, List.getElem?_cons_zero, List.getElem?_cons_succ, List.set_cons_zero, List.set_cons_succ, List.map_cons, List.map_nil, List.cons_append, List.nil_append, List.replicate_succ, List.replicate_zero, Nat.reduceSub, Nat.sub_zero, cond_true, cond_false, cond_b1, cond_b2, Bool.not_true, Bool.not_false, List.length_cons, List.length_nil, Nat.zero_add, Nat.reduceAdd, b_nm, b_tup, bs_nil, bs_cons, b_some, frzE, own_I, own_L, own_T, own_K, n_add, n_mulL, n_mulR, n_sub, n_mod, n_div, n_lt, n_le, n_gt, n_ge, n_eq, n_ne, n_neg, ↓cmpr_map, ↓cmpA_map, ↓cmpA_range, cmpA_ok, cmpA_okc, cmpN_ok, cmpN_okc, cmpA_none, cmpN_none, gd_t, gd_k, r1_n, rng_t, rng_l, psk_ok, ix_t0, ix_t1, ix_t2, ix_t3, ix_t4, ix_m4, ix_m5, ix_dI, ix_lI, len_t, len_l, len_dI, len_lI, src_d, src_l, src_L, src_T, srcO_L, srcO_I, tup_l, tup_lI, tup_t, tup_dI, lst_dI, lst_lI, lst_t, fold_lI, fold_dI, sum_lI, cat_dI, tup1_n, tup0_n, lst0_n, papp_I, papp_L, fold_snoc, fold_set, pext_L, psetI_I, psetL_I, fold_l, fold_t, fold_l1, pss_l, pss_d, in_lI, in_dI, nin_lI, nin_dI, meOk_i, meOk_L, me_idx, sl_from, sl_to, plo_n, plo_j, isi_ni, isi_nb, isi_nt, isi_dt, isi_tt, isi_ss, all_b, any_b, eq_lI, eq_dI, ne_lI, ne_dI, int_b, min_n, max_n, mul_lI, cat_lI, sorted_I, eq_bb, ne_bb, map_dsnoc, sub_01, max_0j, ne_LD, ne_DD]
  obtain ⟨T, h1, h2, h3⟩ := Am.sure_end hA hs p
  have hT : T < 8000000 := by omega
  have hrun := whl_run (F := runF DS (n + 4)) (c := .cmp .gt (.bi .len (.cons (.v 2) .nil)) (.c (nI 1))) (b := b_sure_L) (fun i => [.val M.d, .val (nI (M.am.go s i)), .val (dI (M.am.stn s i)), .own (sP (M.am.sns s i)), .val (nI i)]) T 0 WF (fun j hj => by
    obtain ⟨k1, k2⟩ := h3 j hj
    rw [Nat.zero_add]
    have hg := Am.go_lt hA hs j
    have g1 := (g j).2.1
    have g2 := (g j).2.2
    have hl : (M.am.sns s j).length < 8000000 := by unfold Am.sns; rw [List.length_map, List.length_range]; omega
    refine ⟨by rw [hc, decide_eq_true k1], ?_⟩
    have q1 := pset_sP _ _ k2 hl
    simp (disch := first | omega | with_reducible assumption | (simp only [List.length_cons, List.length_nil, List.length_append, List.length_map, List.length_range, Am.row_len]; omega)) only [b_sure_L, v_c, v_g, v_v, v_bin, v_neg, v_cmp, v_chain, v_and, v_or, v_not, v_ix, v_sl, v_rev, v_tup, v_lst, v_call, v_bi, v_rng, v_srtSet, v_meth, v_isi, v_dnew, v_srtKey, vs_nil, vs_cons, vr_nil, vr_cons, vo_no, vo_so, vc_e, vc_own, vc_1, vc_2, vc_en, vc_zip, v_comp1, v_comp1c, v_comp2, x_pass, x_seq, x_frz, x_set, x_setO, x_unp, x_par, x_par3, x_iff, x_ret, x_retN, x_rai, x_exp, x_cont, x_for, x_whl, x_app, x_ext, x_pop0, x_setIx, own_s, kApp_L, kApp_I, kExt_L, kExt_I, kSet_L, kSet_I, kSet_T, kSet_K, R.bind_ok, R.fl_ok, R.nox_ok, then_kS, fl_kFor, then_rt, then_exc, toR_rt, toR_exc, asB_b, rd_val, rd_own, onx_s, List.getElem?_cons_zero, List.getElem?_cons_succ, List.set_cons_zero, List.set_cons_succ, List.map_cons, List.map_nil, List.cons_append, List.nil_append, List.replicate_succ, List.replicate_zero, Nat.reduceSub, Nat.sub_zero, cond_true, cond_false, cond_b1, cond_b2, Bool.not_true, Bool.not_false, List.length_cons, List.length_nil, Nat.zero_add, Nat.reduceAdd, b_nm, b_tup, bs_nil, bs_cons, b_some, frzE, own_I, own_L, own_T, own_K, n_add, n_mulL, n_mulR, n_sub, n_mod, n_div, n_lt, n_le, n_gt, n_ge, n_eq, n_ne, n_neg, ↓cmpr_map, ↓cmpA_map, ↓cmpA_range, cmpA_ok, cmpA_okc, cmpN_ok, cmpN_okc, cmpA_none, cmpN_none, gd_t, gd_k, r1_n, rng_t, rng_l, psk_ok, ix_t0, ix_t1, ix_t2, ix_t3, ix_t4, ix_m4, ix_m5, ix_dI, ix_lI, len_t, len_l, len_dI, len_lI, src_d, src_l, src_L, src_T, srcO_L, srcO_I, tup_l, tup_lI, tup_t, tup_dI, lst_dI, lst_lI, lst_t, fold_lI, fold_dI, sum_lI, cat_dI, tup1_n, tup0_n, lst0_n, papp_I, papp_L, fold_snoc, fold_set, pext_L, psetI_I, psetL_I, fold_l, fold_t, fold_l1, pss_l, pss_d, in_lI, in_dI, nin_lI, nin_dI, meOk_i, meOk_L, me_idx, sl_from, sl_to, plo_n, plo_j, isi_ni, isi_nb, isi_nt, isi_dt, isi_tt, isi_ss, all_b, any_b, eq_lI, eq_dI, ne_lI, ne_dI, int_b, min_n, max_n, mul_lI, cat_lI, sorted_I, eq_bb, ne_bb, map_dsnoc, sub_01, max_0j, ne_LD, ne_DD, in_sP, decide_eq_false k2, kSet_sP, own_sP, q1, r_face, r_next, r_step, ← Am.stn_succ, ← Am.go_succ, ← Am.sns_succ]) (by rw [WF_eq]; omega)
  rw [Nat.zero_add] at hrun
  have hrun' : whlS (runF DS (n + 4)) (.cmp .gt (.bi .len (.cons (.v 2) .nil)) (.c (nI 1))) b_sure_L WF [.val M.d, .val (nI s), .val (dI (List.range M.am.n)), .own (sP []), .val (nI 0)] = _ := hrun
  rw [hrun']
  have hW : 0 < WF - T := by rw [WF_eq]; omega
  by_cases k1 : (M.am.stn s T).length ≤ 1
  · have hp := Am.stn_pos hA hs T
    rw [whl_fn (by rw [hc, decide_eq_false (by omega)]) hW, Am.sur_some (t := T) (by omega) fun j hj => by have := (h3 j hj).1; omega]
    simp (disch := first | omega | with_reducible assumption | (simp only [List.length_cons, List.length_nil, List.length_append, List.length_map, List.length_range, Am.row_len]; omega)) only [v_c, v_g, v_v, v_bin, v_neg, v_cmp, v_chain, v_and, v_or, v_not, v_ix, v_sl, v_rev, v_tup, v_lst, v_call, v_bi, v_rng, v_srtSet, v_meth, v_isi, v_dnew, v_srtKey, vs_nil, vs_cons, vr_nil, vr_cons, vo_no, vo_so, vc_e, vc_own, vc_1, vc_2, vc_en, vc_zip, v_comp1, v_comp1c, v_comp2, x_pass, x_seq, x_frz, x_set, x_setO, x_unp, x_par, x_par3, x_iff, x_ret, x_retN, x_rai, x_exp, x_cont, x_for, x_whl, x_app, x_ext, x_pop0, x_setIx, own_s, kApp_L, kApp_I, kExt_L, kExt_I, kSet_L, kSet_I, kSet_T, kSet_K, R.bind_ok, R.fl_ok, R.nox_ok, then_kS, fl_kFor, then_rt, then_exc, toR_rt, toR_exc, asB_b, rd_val, rd_own, onx_s, List.getElem?_cons_zero, List.getElem?_cons_succ, List.set_cons_zero, List.set_cons_succ, List.map_cons, List.map_nil, List.cons_append, List.nil_append, List.replicate_succ, List.replicate_zero, Nat.reduceSub, Nat.sub_zero, cond_true, cond_false, cond_b1, cond_b2, Bool.not_true, Bool.not_false, List.length_cons, List.length_nil, Nat.zero_add, Nat.reduceAdd, b_nm, b_tup, bs_nil, bs_cons, b_some, frzE, own_I, own_L, own_T, own_K, n_add, n_mulL, n_mulR, n_sub, n_mod, n_div, n_lt, n_le, n_gt, n_ge, n_eq, n_ne, n_neg, ↓cmpr_map, ↓cmpA_map, ↓cmpA_range, cmpA_ok, cmpA_okc, cmpN_ok, cmpN_okc, cmpA_none, cmpN_none, gd_t, gd_k, r1_n, rng_t, rng_l, psk_ok, ix_t0, ix_t1, ix_t2, ix_t3, ix_t4, ix_m4, ix_m5, ix_dI, ix_lI, len_t, len_l, len_dI, len_lI, src_d, src_l, src_L, src_T, srcO_L, srcO_I, tup_l, tup_lI, tup_t, tup_dI, lst_dI, lst_lI, lst_t, fold_lI, fold_dI, sum_lI, cat_dI, tup1_n, tup0_n, lst0_n, papp_I, papp_L, fold_snoc, fold_set, pext_L, psetI_I, psetL_I, fold_l, fold_t, fold_l1, pss_l, pss_d, in_lI, in_dI, nin_lI, nin_dI, meOk_i, meOk_L, me_idx, sl_from, sl_to, plo_n, plo_j, isi_ni, isi_nb, isi_nt, isi_dt, isi_tt, isi_ss, all_b, any_b, eq_lI, eq_dI, ne_lI, ne_dI, int_b, min_n, max_n, mul_lI, cat_lI, sorted_I, eq_bb, ne_bb, map_dsnoc, sub_01, max_0j, ne_LD, ne_DD]
    rfl
  · have k2 := h2.resolve_left k1
    have hno : ∀ t, 2 ≤ (M.am.stn s t).length := by
      obtain ⟨j, hj, e⟩ := Am.mem_sns.mp k2
      injection e with e1 e2
      exact Am.stn_never hA hj e1.symm e2.symm (by have := (h3 j hj).1; omega)
    rw [whl_rt (d := .none) (by rw [hc, decide_eq_true (by omega)]) (by
      simp (disch := first | omega | with_reducible assumption | (simp only [List.length_cons, List.length_nil, List.length_append, List.length_map, List.length_range, Am.row_len]; omega)) only [b_sure_L, v_c, v_g, v_v, v_bin, v_neg, v_cmp, v_chain, v_and, v_or, v_not, v_ix, v_sl, v_rev, v_tup, v_lst, v_call, v_bi, v_rng, v_srtSet, v_meth, v_isi, v_dnew, v_srtKey, vs_nil, vs_cons, vr_nil, vr_cons, vo_no, vo_so, vc_e, vc_own, vc_1, vc_2, vc_en, vc_zip, v_comp1, v_comp1c, v_comp2, x_pass, x_seq, x_frz, x_set, x_setO, x_unp, x_par, x_par3, x_iff, x_ret, x_retN, x_rai, x_exp, x_cont, x_for, x_whl, x_app, x_ext, x_pop0, x_setIx, own_s, kApp_L, kApp_I, kExt_L, kExt_I, kSet_L, kSet_I, kSet_T, kSet_K, R.bind_ok, R.fl_ok, R.nox_ok, then_kS, fl_kFor, then_rt, then_exc, toR_rt, toR_exc, asB_b, rd_val, rd_own, onx_s, List.getElem?_cons_zero, List.getElem?_cons_succ, List.set_cons_zero, List.set_cons_succ, List.map_cons, List.map_nil, List.cons_append, List.nil_append, List.replicate_succ, List.replicate_zero, Nat.reduceSub, Nat.sub_zero, cond_true, cond_false, cond_b1, cond_b2, Bool.not_true, Bool.not_false, List.length_cons, List.length_nil, Nat.zero_add, Nat.reduceAdd, b_nm, b_tup, bs_nil, bs_cons, b_some, frzE, own_I, own_L, own_T, own_K, n_add, n_mulL, n_mulR, n_sub, n_mod, n_div, n_lt, n_le, n_gt, n_ge, n_eq, n_ne, n_neg, ↓cmpr_map, ↓cmpA_map, ↓cmpA_range, cmpA_ok, cmpA_okc, cmpN_ok, cmpN_okc, cmpA_none, cmpN_none, gd_t, gd_k, r1_n, rng_t, rng_l, psk_ok, ix_t0, ix_t1, ix_t2, ix_t3, ix_t4, ix_m4, ix_m5, ix_dI, ix_lI, len_t, len_l, len_dI, len_lI, src_d, src_l, src_L, src_T, srcO_L, srcO_I, tup_l, tup_lI, tup_t, tup_dI, lst_dI, lst_lI, lst_t, fold_lI, fold_dI, sum_lI, cat_dI, tup1_n, tup0_n, lst0_n, papp_I, papp_L, fold_snoc, fold_set, pext_L, psetI_I, psetL_I, fold_l, fold_t, fold_l1, pss_l, pss_d, in_lI, in_dI, nin_lI, nin_dI, meOk_i, meOk_L, me_idx, sl_from, sl_to, plo_n, plo_j, isi_ni, isi_nb, isi_nt, isi_dt, isi_tt, isi_ss, all_b, any_b, eq_lI, eq_dI, ne_lI, ne_dI, int_b, min_n, max_n, mul_lI, cat_lI, sorted_I, eq_bb, ne_bb, map_dsnoc, sub_01, max_0j, ne_LD, ne_DD, in_sP, decide_eq_true k2]) hW, Am.sur_none fun t e => by have := hno t; omega]
    rfl
end
end Iv
end

section
namespace Iv
open PySem
/-! ### lists of numbers, or none -/
def hasN (l : List (Option Nat)) : Bool := l.any fun o => o.isNone
theorem lay_oI (k : Nat) (o : Option Nat) : lay k (oI o) = true := by
  cases o with
  | none => exact lay_none k
  | some n => exact lay_n k n
theorem lay_LO (l : List (Option Nat)) : lay 64 (.list (l.map oI)) = true := by
  rw [lay_list]; exact lay_map 63 l oI (lay_oI 63)
theorem inData_no : ∀ l : List (Option Nat), inData .none (l.map oI) = hasN l
  | [] => rfl
  | o :: l => by
    rw [List.map_cons, inData, inData_no l]
    unfold hasN
    rw [List.any_cons]
    cases o with
    | none => simp [oI, PyData.eqv]
    | some n => simp [oI, nI, PyData.eqv]
theorem in_LO (l : List (Option Nat)) : pcmp .isin .none (.list (l.map oI)) = .ok (hasN l) := by
  show (if (lay 64 .none && lay 64 (.list (l.map oI))) = true then R.ok (inData .none (l.map oI)) else .bad) = _
  rw [lay_LO, lay_none, if_pos (by rfl), inData_no]
theorem nin_LO (l : List (Option Nat)) : pcmp .nin .none (.list (l.map oI)) = .ok (!hasN l) := by
  show (pcmp .isin .none (.list (l.map oI))).bind (fun k => .ok (!k)) = _
  rw [in_LO]; rfl
theorem hasN_f {l : List (Option Nat)} (h : hasN l = false) : ∃ l' : List Nat, l = l'.map some := by
  induction l with
  | nil => exact ⟨[], rfl⟩
  | cons o l ih =>
    unfold hasN at h
    rw [List.any_cons, Bool.or_eq_false_iff] at h
    obtain ⟨l', e⟩ := ih h.2
    cases o with
    | none => cases h.1
    | some n => exact ⟨n :: l', by rw [e]; rfl⟩
def mxN : Nat → List Nat → Nat
  | m, [] => m
  | m, x :: r => mxN (if m < x then x else m) r
theorem maxOf_N : ∀ (l : List Nat) (m : Nat), maxOf m (l.map fun (i : Nat) => (i : Int)) = (mxN m l : Nat)
  | [], m => by rw [List.map_nil, maxOf]; rfl
  | x :: l, m => by
    rw [List.map_cons, maxOf, mxN]
    by_cases h : m < x
    · rw [if_pos h, if_pos (by omega)]; exact maxOf_N l x
    · rw [if_neg h, if_neg (by omega)]; exact maxOf_N l m
def mxL : List Nat → Nat
  | [] => 0
  | x :: r => mxN x r
theorem max_lI {l : List Nat} (h : l ≠ []) : pbi .max [lI l] = .ok (nI (mxL l)) := by
  cases l with
  | nil => exact (h rfl).elim
  | cons x r =>
    show (match intsOf ((x :: r).map nI) with | some (x :: r) => R.ok (PyData.int (maxOf x r)) | _ => .bad) = _
    rw [intsOf_nI]
    show R.ok (PyData.int (maxOf x (r.map fun (i : Nat) => (i : Int)))) = _
    rw [maxOf_N]; rfl
/-- the greatest, none if one is none -/
def mxO (l : List (Option Nat)) : Option Nat := bif hasN l then none else some (mxL (l.map fun o => o.getD 0))
theorem max_LO {l : List (Option Nat)} (h0 : l ≠ []) (h : hasN l = false) : pbi .max [.list (l.map oI)] = .ok (oI (mxO l)) := by
  unfold mxO
  rw [h]
  obtain ⟨l', rfl⟩ := hasN_f h
  have e : ((l'.map some).map oI) = l'.map nI := by rw [List.map_map]; rfl
  have e2 : (l'.map some).map (fun o => o.getD 0) = l' := by rw [List.map_map]; exact List.map_id _
  rw [e, e2]
  exact max_lI fun z => h0 (by rw [z]; rfl)
theorem eqv_oI (a b : Option Nat) : PyData.eqv (oI a) (oI b) = decide (a = b) := by
  cases a <;> cases b
  · simp [oI, PyData.eqv]
  · simp [oI, nI, PyData.eqv]
  · simp [oI, nI, PyData.eqv]
  · show PyData.eqv (nI _) (nI _) = _
    rw [eqv_n, Bool.eq_iff_iff, decide_eq_true_eq, decide_eq_true_eq]
    exact ⟨fun h => by rw [h], fun h => by injection h⟩
theorem eq_oI (a b : Option Nat) : pcmp .eq (oI a) (oI b) = .ok (decide (a = b)) := by
  show (if (lay 64 (oI a) && lay 64 (oI b)) = true then R.ok (PyData.eqv (oI a) (oI b)) else .bad) = _
  rw [lay_oI, lay_oI, if_pos (by rfl), eqv_oI]
theorem ne_oI (a b : Option Nat) : pcmp .ne (oI a) (oI b) = .ok (!decide (a = b)) := by
  show (if (lay 64 (oI a) && lay 64 (oI b)) = true then R.ok (!PyData.eqv (oI a) (oI b)) else .bad) = _
  rw [lay_oI, lay_oI, if_pos (by rfl), eqv_oI]
theorem is_oI (a : Option Nat) : pcmp .is (oI a) .none = .ok a.isNone := by cases a <;> rfl
/-! ### periods -/
theorem Am.per_of {A : Am} (h : A.Ok) (hn : A.n ≤ 40) : ∃ t0 L, A.Per t0 L ∧ t0 + L < 7000000 := ⟨_, _, Am.per_pd h, by have := Am.pd_40 h hn; omega⟩
noncomputable def Am.surs (A : Am) : List (Option Nat) := (List.range A.n).map A.sur
theorem Am.surs_ne {A : Am} (h : A.Ok) : A.surs ≠ [] := fun e => by
  have := congrArg List.length e
  unfold Am.surs at this
  rw [List.length_map, List.length_range] at this
  have := h.pos
  simp at *
  omega
section
variable {DS : List Def} [Has DS "power" 2 4 b_power] [Has DS "stands" 1 1 b_stands] [Has DS "step" 2 4 b_step] [Has DS "face" 2 2 b_face] [Has DS "next_stands" 3 4 b_next_stands] [Has DS "sure" 2 5 b_sure] [Has DS "surest" 1 3 b_surest]
theorem r_surest (n : Nat) {M : Mk} (hM : M.ok) {t0 L : Nat} (p : M.am.Per t0 L) (hb : t0 + L < 7000000) : runF DS (n + 6) "surest" [M.d] = .ok (oI (mxO M.am.surs)) := by
  have hA := Mk.am_ok hM
  have h64 := hA.le
  rw [run_has (n + 5) _ rfl]
  have hs : ∀ s, s < M.am.n → runF DS (n + 5) "sure" [M.d, nI s] = .ok (oI (M.am.sur s)) := fun s hs => r_sure n hM hs p hb
  have e : (List.range M.am.n).map (fun a => oI (M.am.sur a)) = M.am.surs.map oI := by unfold Am.surs; rw [List.map_map]; rfl
  simp +contextual (disch := first | omega | with_reducible assumption | (simp only [List.length_cons, List.length_nil, List.length_append, List.length_map, List.length_range, Am.row_len]; omega)) only [b_surest, v_c, v_g, v_v, v_bin, v_neg, v_cmp, v_chain, v_and, v_or, v_not, v_ix, v_sl, v_rev, v_tup, v_lst, v_call, v_bi, v_rng, v_srtSet, v_meth, v_isi, v_dnew, v_srtKey, vs_nil, vs_cons, vr_nil, vr_cons, vo_no, vo_so, vc_e, vc_own, vc_1, vc_2, vc_en, vc_zip, v_comp1, v_comp1c, v_comp2, x_pass, x_seq, x_frz, x_set, x_setO, x_unp, x_par, x_par3, x_iff, x_ret, x_retN, x_rai, x_exp, x_cont, x_for, x_whl, x_app, x_ext, x_pop0, x_setIx, own_s, kApp_L, kApp_I, kExt_L, kExt_I, kSet_L, kSet_I, kSet_T, kSet_K, R.bind_ok, R.fl_ok, R.nox_ok, then_kS, fl_kFor, then_rt, then_exc, toR_rt, toR_exc, asB_b, rd_val, rd_own, onx_s, List.getElem?_cons_zero, List.getElem?_cons_succ, List.set_cons_zero, List.set_cons_succ, List.map_cons, List.map_nil, List.cons_append, List.nil_append, List.replicate_succ, List.replicate_zero, Nat.reduceSub, Nat.sub_zero, cond_true, cond_false, cond_b1, cond_b2, Bool.not_true, Bool.not_false, List.length_cons, List.length_nil, Nat.zero_add, Nat.reduceAdd, b_nm, b_tup, bs_nil, bs_cons, b_some, frzE, own_I, own_L, own_T, own_K, n_add, n_mulL, n_mulR, n_sub, n_mod, n_div, n_lt, n_le, n_gt, n_ge, n_eq, n_ne, n_neg, ↓cmpr_map, ↓cmpA_map, ↓cmpA_range, cmpA_ok, cmpA_okc, cmpN_ok, cmpN_okc, cmpA_none, cmpN_none, gd_t, gd_k, r1_n, rng_t, rng_l, psk_ok, ix_t0, ix_t1, ix_t2, ix_t3, ix_t4, ix_m4, ix_m5, ix_dI, ix_lI, len_t, len_l, len_dI, len_lI, src_d, src_l, src_L, src_T, srcO_L, srcO_I, tup_l, tup_lI, tup_t, tup_dI, lst_dI, lst_lI, lst_t, fold_lI, fold_dI, sum_lI, cat_dI, tup1_n, tup0_n, lst0_n, papp_I, papp_L, fold_snoc, fold_set, pext_L, psetI_I, psetL_I, fold_l, fold_t, fold_l1, pss_l, pss_d, in_lI, in_dI, nin_lI, nin_dI, meOk_i, meOk_L, me_idx, sl_from, sl_to, plo_n, plo_j, isi_ni, isi_nb, isi_nt, isi_dt, isi_tt, isi_ss, all_b, any_b, eq_lI, eq_dI, ne_lI, ne_dI, int_b, min_n, max_n, mul_lI, cat_lI, sorted_I, eq_bb, ne_bb, map_dsnoc, sub_01, max_0j, ne_LD, ne_DD, r_stands, hs, e, in_LO]
  cases q : hasN M.am.surs with
  | true =>
    simp (disch := first | omega | with_reducible assumption | (simp only [List.length_cons, List.length_nil, List.length_append, List.length_map, List.length_range, Am.row_len]; omega)) only [v_c, v_g, v_v, v_bin, v_neg, v_cmp, v_chain, v_and, v_or, v_not, v_ix, v_sl, v_rev, v_tup, v_lst, v_call, v_bi, v_rng, v_srtSet, v_meth, v_isi, v_dnew, v_srtKey, vs_nil, vs_cons, vr_nil, vr_cons, vo_no, vo_so, vc_e, vc_own, vc_1, vc_2, vc_en, vc_zip, v_comp1, v_comp1c, v_comp2, x_pass, x_seq, x_frz, x_set, x_setO, x_unp, x_par, x_par3, x_iff, x_ret, x_retN, x_rai, x_exp, x_cont, x_for, x_whl, x_app, x_ext, x_pop0, x_setIx, own_s, kApp_L, kApp_I, kExt_L, kExt_I, kSet_L, kSet_I, kSet_T, kSet_K, R.bind_ok, R.fl_ok, R.nox_ok, then_kS, fl_kFor, then_rt, then_exc, toR_rt, toR_exc, asB_b, rd_val, rd_own, onx_s, List.getElem?_cons_zero, List.getElem?_cons_succ, List.set_cons_zero, List.set_cons_succ, List.map_cons, List.map_nil, List.cons_append, List.nil_append, List.replicate_succ, List.replicate_zero, Nat.reduceSub, Nat.sub_zero, cond_true, cond_false, cond_b1, cond_b2, Bool.not_true, Bool.not_false, List.length_cons, List.length_nil, Nat.zero_add, Nat.reduceAdd, b_nm, b_tup, bs_nil, bs_cons, b_some, frzE, own_I, own_L, own_T, own_K, n_add, n_mulL, n_mulR, n_sub, n_mod, n_div, n_lt, n_le, n_gt, n_ge, n_eq, n_ne, n_neg, ↓cmpr_map, ↓cmpA_map, ↓cmpA_range, cmpA_ok, cmpA_okc, cmpN_ok, cmpN_okc, cmpA_none, cmpN_none, gd_t, gd_k, r1_n, rng_t, rng_l, psk_ok, ix_t0, ix_t1, ix_t2, ix_t3, ix_t4, ix_m4, ix_m5, ix_dI, ix_lI, len_t, len_l, len_dI, len_lI, src_d, src_l, src_L, src_T, srcO_L, srcO_I, tup_l, tup_lI, tup_t, tup_dI, lst_dI, lst_lI, lst_t, fold_lI, fold_dI, sum_lI, cat_dI, tup1_n, tup0_n, lst0_n, papp_I, papp_L, fold_snoc, fold_set, pext_L, psetI_I, psetL_I, fold_l, fold_t, fold_l1, pss_l, pss_d, in_lI, in_dI, nin_lI, nin_dI, meOk_i, meOk_L, me_idx, sl_from, sl_to, plo_n, plo_j, isi_ni, isi_nb, isi_nt, isi_dt, isi_tt, isi_ss, all_b, any_b, eq_lI, eq_dI, ne_lI, ne_dI, int_b, min_n, max_n, mul_lI, cat_lI, sorted_I, eq_bb, ne_bb, map_dsnoc, sub_01, max_0j, ne_LD, ne_DD]
    unfold mxO
    rw [q]; rfl
  | false =>
    have hm := max_LO (Am.surs_ne hA) q
    simp (disch := first | omega | with_reducible assumption | (simp only [List.length_cons, List.length_nil, List.length_append, List.length_map, List.length_range, Am.row_len]; omega)) only [v_c, v_g, v_v, v_bin, v_neg, v_cmp, v_chain, v_and, v_or, v_not, v_ix, v_sl, v_rev, v_tup, v_lst, v_call, v_bi, v_rng, v_srtSet, v_meth, v_isi, v_dnew, v_srtKey, vs_nil, vs_cons, vr_nil, vr_cons, vo_no, vo_so, vc_e, vc_own, vc_1, vc_2, vc_en, vc_zip, v_comp1, v_comp1c, v_comp2, x_pass, x_seq, x_frz, x_set, x_setO, x_unp, x_par, x_par3, x_iff, x_ret, x_retN, x_rai, x_exp, x_cont, x_for, x_whl, x_app, x_ext, x_pop0, x_setIx, own_s, kApp_L, kApp_I, kExt_L, kExt_I, kSet_L, kSet_I, kSet_T, kSet_K, R.bind_ok, R.fl_ok, R.nox_ok, then_kS, fl_kFor, then_rt, then_exc, toR_rt, toR_exc, asB_b, rd_val, rd_own, onx_s, List.getElem?_cons_zero, List.getElem?_cons_succ, List.set_cons_zero, List.set_cons_succ, List.map_cons, List.map_nil, List.cons_append, List.nil_append, List.replicate_succ, List.replicate_zero, Nat.reduceSub, Nat.sub_zero, cond_true, cond_false, cond_b1, cond_b2, Bool.not_true, Bool.not_false, List.length_cons, List.length_nil, Nat.zero_add, Nat.reduceAdd, b_nm, b_tup, bs_nil, bs_cons, b_some, frzE, own_I, own_L, own_T, own_K, n_add, n_mulL, n_mulR, n_sub, n_mod, n_div, n_lt, n_le, n_gt, n_ge, n_eq, n_ne, n_neg, ↓cmpr_map, ↓cmpA_map, ↓cmpA_range, cmpA_ok, cmpA_okc, cmpN_ok, cmpN_okc, cmpA_none, cmpN_none, gd_t, gd_k, r1_n, rng_t, rng_l, psk_ok, ix_t0, ix_t1, ix_t2, ix_t3, ix_t4, ix_m4, ix_m5, ix_dI, ix_lI, len_t, len_l, len_dI, len_lI, src_d, src_l, src_L, src_T, srcO_L, srcO_I, tup_l, tup_lI, tup_t, tup_dI, lst_dI, lst_lI, lst_t, fold_lI, fold_dI, sum_lI, cat_dI, tup1_n, tup0_n, lst0_n, papp_I, papp_L, fold_snoc, fold_set, pext_L, psetI_I, psetL_I, fold_l, fold_t, fold_l1, pss_l, pss_d, in_lI, in_dI, nin_lI, nin_dI, meOk_i, meOk_L, me_idx, sl_from, sl_to, plo_n, plo_j, isi_ni, isi_nb, isi_nt, isi_dt, isi_tt, isi_ss, all_b, any_b, eq_lI, eq_dI, ne_lI, ne_dI, int_b, min_n, max_n, mul_lI, cat_lI, sorted_I, eq_bb, ne_bb, map_dsnoc, sub_01, max_0j, ne_LD, ne_DD, hm]
end
end Iv
end

section
namespace Iv
/-! ### bits go round together -/
def tlook (T x : Nat) : Nat := T / 64 ^ x % 64
def tmk (g : Nat → Nat) : Nat → Nat
  | 0 => 0
  | n + 1 => tmk g n + g n * 64 ^ n
theorem tmk_lt {g : Nat → Nat} : ∀ {n : Nat}, (∀ x, x < n → g x < 64) → tmk g n < 64 ^ n
  | 0, _ => by rw [tmk]; exact Nat.one_pos
  | n + 1, h => by
    have ih := tmk_lt (n := n) fun x hx => h x (by omega)
    have hn : g n * 64 ^ n ≤ 63 * 64 ^ n := Nat.mul_le_mul_right _ (by have := h n (by omega); omega)
    rw [tmk, Nat.pow_succ]
    omega
theorem look_mk {g : Nat → Nat} : ∀ {n : Nat}, (∀ x, x < n → g x < 64) → ∀ x, x < n → tlook (tmk g n) x = g x
  | n + 1, h, x, hx => by
    have h' : ∀ x, x < n → g x < 64 := fun x hx => h x (by omega)
    have hl := tmk_lt h'
    rw [tmk]
    unfold tlook
    by_cases e : x = n
    · subst e
      rw [Nat.add_mul_div_right _ _ (Nat.pow_pos (by decide)), Nat.div_eq_of_lt hl, Nat.zero_add]
      exact Nat.mod_eq_of_lt (h x (by omega))
    · have ih := look_mk h' x (by omega)
      unfold tlook at ih
      have e1 : g n * 64 ^ n = (g n * 64 ^ (n - x - 1)) * 64 * 64 ^ x := by
        rw [Nat.mul_assoc (g n), ← Nat.pow_succ, Nat.mul_assoc, ← Nat.pow_add]
        congr 2; omega
      rw [e1, Nat.add_mul_div_right _ _ (Nat.pow_pos (by decide)), Nat.add_mul_mod_self_right]
      exact ih
def tcomp (n T U : Nat) : Nat := tmk (fun x => tlook U (tlook T x)) n
def tpow (n T1 : Nat) : List Bool → Nat → Nat
  | [], acc => acc
  | b :: r, acc => tpow n T1 r (bif b then tcomp n (tcomp n acc acc) T1 else tcomp n acc acc)
/-- 78120, but for its first digit -/
def dig : List Bool := [false, false, true, true, false, false, false, true, false, false, true, false, true, false, false, false]
def chkB1 (k : Nat) (taps : List Nat) : Bool :=
  let T1 := tmk (fun s => 2 * s % 2 ^ k + Mk.odd taps s) (2 ^ k)
  let T8 := tpow (2 ^ k) T1 [false, false, false] T1
  tcomp (2 ^ k) T8 (tpow (2 ^ k) T1 dig T1) == T8
def subs : List Nat → List (List Nat)
  | [] => [[]]
  | a :: l => subs l ++ (subs l).map (a :: ·)
theorem mem_subs {l' l : List Nat} (h : l'.Sublist l) : l' ∈ subs l := by
  induction h with
  | slnil => exact .head _
  | cons a _ ih => exact List.mem_append_left _ ih
  | cons_cons a _ ih => exact List.mem_append_right _ (List.mem_map.mpr ⟨_, ih, rfl⟩)
def chkBs : Bool := [1, 2, 3, 4, 5, 6].all fun k => (subs (List.range k)).all fun t => chkB1 k t
set_option maxHeartbeats 0 in
theorem chkBs_t : chkBs = true := by decide +kernel
def TabOf (A : Am) (T e : Nat) : Prop := ∀ x, x < A.n → tlook T x = A.go x e
theorem tb_comp {A : Am} (h : A.Ok) {T U a b : Nat} (ht : TabOf A T a) (hu : TabOf A U b) : TabOf A (tcomp A.n T U) (a + b) := fun x hx => by
  have h64 := h.le
  unfold tcomp
  rw [look_mk (fun y _ => by unfold tlook; exact Nat.mod_lt _ (by decide)) x hx, ht x hx, hu _ (Am.go_lt h hx a), A.go_add]
def val (bs : List Bool) (e : Nat) : Nat := bs.foldl (fun e b => bif b then e + e + 1 else e + e) e
theorem tb_pow {A : Am} (h : A.Ok) {T1 : Nat} (h1 : TabOf A T1 1) : ∀ (bs : List Bool) {T e : Nat}, TabOf A T e → TabOf A (tpow A.n T1 bs T) (val bs e)
  | [], _, _, ht => ht
  | true :: bs, _, _, ht => tb_pow h h1 bs (tb_comp h (tb_comp h ht ht) h1)
  | false :: bs, _, _, ht => tb_pow h h1 bs (tb_comp h ht ht)
theorem per_bits {k : Nat} {taps : List Nat} {f : Nat} (h : (Mk.bits k taps f).ok) : (Mk.bits k taps f).am.Per 8 78120 := by
  have hA := Mk.am_ok h
  have h64 := hA.le
  obtain ⟨k1, k2, _, hp, ht, _⟩ := h
  have hm : chkB1 k taps = true := by
    have hc := chkBs_t
    unfold chkBs at hc
    rw [List.all_eq_true] at hc
    have := hc k (by have : k = 1 ∨ k = 2 ∨ k = 3 ∨ k = 4 ∨ k = 5 ∨ k = 6 := by omega
                     rcases this with rfl | rfl | rfl | rfl | rfl | rfl <;> decide)
    rw [List.all_eq_true] at this
    refine this taps (mem_subs ?_)
    have e := inc_filter hp ht
    rw [e]
    exact List.filter_sublist
  have hn : (Mk.bits k taps f).am.n = 2 ^ k := rfl
  have hT1 : TabOf (Mk.bits k taps f).am (tmk (fun s => 2 * s % 2 ^ k + Mk.odd taps s) (2 ^ k)) 1 := fun x hx => by
    have hg : ∀ y, y < 2 ^ k → 2 * y % 2 ^ k + Mk.odd taps y = (Mk.bits k taps f).am.f y := fun y hy => by
      show _ = (if y < 2 ^ k then _ else 0)
      rw [if_pos hy]; rfl
    rw [look_mk (fun y hy => by rw [hg y hy]; have := hA.f_lt y; omega) x (by rw [← hn]; exact hx), hg x (by rw [← hn]; exact hx)]
    rfl
  unfold chkB1 at hm
  simp only [beq_iff_eq] at hm
  rw [← hn] at hm hT1
  have a := tb_pow hA hT1 [false, false, false] hT1
  have b := tb_pow hA hT1 dig hT1
  have c := tb_comp hA a b
  rw [hm] at c
  have e : val [false, false, false] 1 = 8 := by decide
  have e2 : val dig 1 = 78120 := by decide
  rw [e] at a c
  rw [e2] at c
  exact ⟨by decide, fun x hx => (c x hx).symm.trans (a x hx)⟩
end Iv
end

section
namespace Iv
open PySem
/-! ### loops, with names that are of no matter -/
theorem forS_idx {α β : Type} {F : Str → List PyData → R PyData} {b : S} {t : T} {enc : α → PyData} : ∀ {l : List α} (E : Nat → β → Env),
    (∀ (i : Nat) (a : α), l[i]? = some a → ∀ j : β, ∃ ρ1 j', bindT t (enc a) (E i j) = some ρ1 ∧ ex F b ρ1 = .nx (E (i + 1) j')) → ∀ j : β, ∃ j', forS F t b (l.map enc) (E 0 j) = .nx (E l.length j')
  | [], E, _, j => ⟨j, rfl⟩
  | a :: l, E, h, j => by
    obtain ⟨ρ1, j1, h1, h2⟩ := h 0 a rfl j
    obtain ⟨j2, h3⟩ := forS_idx (b := b) (t := t) (enc := enc) (l := l) (fun i => E (i + 1)) (fun i x hx => h (i + 1) x (by rw [List.getElem?_cons_succ]; exact hx)) j1
    refine ⟨j2, ?_⟩
    rw [List.map_cons]
    show (match onx (bindT t (enc a) (E 0 j)) (fun ρ1 => ex F b ρ1) with | .nx ρ' => forS F t b (l.map enc) ρ' | .ct ρ' => forS F t b (l.map enc) ρ' | .bk ρ' => .nx ρ' | o => o) = _
    rw [h1]
    show (match ex F b ρ1 with | .nx ρ' => forS F t b (l.map enc) ρ' | .ct ρ' => forS F t b (l.map enc) ρ' | .bk ρ' => .nx ρ' | o => o) = _
    rw [h2]
    exact h3
/-- over a range, for a simple name -/
theorem forS_rg {β : Type} {F : Str → List PyData → R PyData} {b : S} {t n : Nat} {ρ0 : Env} (E : Nat → β → Env) (j : β) (h0 : ρ0 = E 0 j) (h : ∀ i, i < n → ∀ j : β, ∃ j', ex F b ((E i j).set t (.val (nI i))) = .nx (E (i + 1) j')) :
    ∃ j', forS F (.nm t) b ((List.range n).map nI) ρ0 = .nx (E n j') := by
  rw [h0]
  have := forS_idx (F := F) (b := b) (t := .nm t) (enc := nI) (l := List.range n) E (fun i a hi j => by
    obtain ⟨hl, rfl⟩ := List.getElem?_eq_some_iff.mp hi
    rw [List.length_range] at hl
    rw [List.getElem_range]
    obtain ⟨j', e⟩ := h i hl j
    exact ⟨_, j', b_nm _ _ _, e⟩) j
  rwa [List.length_range] at this
/-- over a list, for a simple name -/
theorem forS_ls {α β : Type} {F : Str → List PyData → R PyData} {b : S} {t : Nat} {enc : α → PyData} {l : List α} {ρ0 : Env} (E : List α → β → Env) (j : β) (h0 : ρ0 = E [] j)
    (h : ∀ p a, a ∈ l → p.length < l.length → (∀ x ∈ p, x ∈ l) → ∀ j : β, ∃ j', ex F b ((E p j).set t (.val (enc a))) = .nx (E (p ++ [a]) j')) :
    ∃ j', forS F (.nm t) b (l.map enc) ρ0 = .nx (E l j') := by
  rw [h0]
  have := forS_idx (F := F) (b := b) (t := .nm t) (enc := enc) (l := l) (fun i => E (l.take i)) (fun i a hi j => by
    obtain ⟨hl, rfl⟩ := List.getElem?_eq_some_iff.mp hi
    obtain ⟨j', e⟩ := h (l.take i) l[i] (List.getElem_mem hl) (by rw [List.length_take]; omega) (fun x hx => List.mem_of_mem_take hx) j
    refine ⟨_, j', b_nm _ _ _, ?_⟩
    rw [e, ← List.take_succ_eq_append_getElem hl]) j
  rwa [List.take_length, List.take_zero] at this
/-- a loop left by return -/
theorem forS_ret {α β : Type} {F : Str → List PyData → R PyData} {b : S} {t : T} {enc : α → PyData} {d : PyData} : ∀ {l : List α} (T : Nat) (E : Nat → β → Env), T < l.length →
    (∀ (i : Nat) (a : α), i < T → l[i]? = some a → ∀ j : β, ∃ ρ1 j', bindT t (enc a) (E i j) = some ρ1 ∧ ex F b ρ1 = .nx (E (i + 1) j')) →
    (∀ (a : α), l[T]? = some a → ∀ j : β, ∃ ρ1, bindT t (enc a) (E T j) = some ρ1 ∧ ex F b ρ1 = .rt d) → ∀ j : β, forS F t b (l.map enc) (E 0 j) = .rt d
  | a :: l, 0, E, _, _, h2, j => by
    obtain ⟨ρ1, h1, h2⟩ := h2 a rfl j
    rw [List.map_cons]
    show (match onx (bindT t (enc a) (E 0 j)) (fun ρ1 => ex F b ρ1) with | .nx ρ' => forS F t b (l.map enc) ρ' | .ct ρ' => forS F t b (l.map enc) ρ' | .bk ρ' => .nx ρ' | o => o) = _
    rw [h1]
    show (match ex F b ρ1 with | .nx ρ' => forS F t b (l.map enc) ρ' | .ct ρ' => forS F t b (l.map enc) ρ' | .bk ρ' => .nx ρ' | o => o) = _
    rw [h2]
  | a :: l, T + 1, E, hT, h1, h2, j => by
    obtain ⟨ρ1, j1, g1, g2⟩ := h1 0 a (by omega) rfl j
    have h3 := forS_ret (b := b) (t := t) (enc := enc) (d := d) (l := l) T (fun i => E (i + 1)) (by rw [List.length_cons] at hT; omega) (fun i x hi hx => h1 (i + 1) x (by omega) (by rw [List.getElem?_cons_succ]; exact hx))
      (fun x hx => h2 x (by rw [List.getElem?_cons_succ]; exact hx)) j1
    rw [List.map_cons]
    show (match onx (bindT t (enc a) (E 0 j)) (fun ρ1 => ex F b ρ1) with | .nx ρ' => forS F t b (l.map enc) ρ' | .ct ρ' => forS F t b (l.map enc) ρ' | .bk ρ' => .nx ρ' | o => o) = _
    rw [g1]
    show (match ex F b ρ1 with | .nx ρ' => forS F t b (l.map enc) ρ' | .ct ρ' => forS F t b (l.map enc) ρ' | .bk ρ' => .nx ρ' | o => o) = _
    rw [g2]
    exact h3
theorem forS_rgr {β : Type} {F : Str → List PyData → R PyData} {b : S} {t n T : Nat} {d : PyData} {ρ0 : Env} (E : Nat → β → Env) (j : β) (h0 : ρ0 = E 0 j) (hT : T < n)
    (h : ∀ i, i < T → ∀ j : β, ∃ j', ex F b ((E i j).set t (.val (nI i))) = .nx (E (i + 1) j')) (h2 : ∀ j : β, ex F b ((E T j).set t (.val (nI T))) = .rt d) :
    forS F (.nm t) b ((List.range n).map nI) ρ0 = .rt d := by
  rw [h0]
  refine forS_ret (F := F) (b := b) (t := .nm t) (enc := nI) (d := d) (l := List.range n) T E (by rw [List.length_range]; exact hT) (fun i a hi ha j => ?_) (fun a ha j => ?_) j
  · obtain ⟨hl, rfl⟩ := List.getElem?_eq_some_iff.mp ha
    rw [List.getElem_range]
    obtain ⟨j', e⟩ := h i hi j
    exact ⟨_, j', b_nm _ _ _, e⟩
  · obtain ⟨hl, rfl⟩ := List.getElem?_eq_some_iff.mp ha
    rw [List.getElem_range]
    exact ⟨_, b_nm _ _ _, h2 j⟩
/-! ### sure, more -/
theorem Am.sur_le {A : Am} (h : A.Ok) {s t : Nat} (hs : s < A.n) (e : A.sur s = some t) : t ≤ A.n := by
  obtain ⟨h1, h2⟩ := Am.sur_get e
  refine Classical.byContradiction fun q => ?_
  have p := Am.per_pd h
  have per : ∀ m, A.stn s (A.n + m * A.pd) = A.stn s A.n := fun m => by
    induction m with
    | zero => rw [Nat.zero_mul]; rfl
    | succ m ih =>
      rw [Nat.succ_mul, ← Nat.add_assoc, (Am.stn_per (t := A.n + m * A.pd) h hs p (by omega) (by omega)).1, ih]
  have a1 := Am.stn_anti (A := A) s t (A.n + t * A.pd - t)
  have le : t * 1 ≤ t * A.pd := Nat.mul_le_mul_left _ p.1
  rw [show t + (A.n + t * A.pd - t) = A.n + t * A.pd by omega, per t] at a1
  have := Am.stn_pos h hs A.n
  exact h2 A.n (by omega) (by omega)
theorem mkM_per (z : Nat) {most : Nat} (h1 : 1 ≤ most) (h2 : most ≤ 40) : ∃ t0 L, (mkM z most).am.Per t0 L ∧ t0 + L < 7000000 := by
  have hM := mkM_ok z h1 (by omega)
  have hm := mkM1_bd z h1
  unfold mkM at hM ⊢
  by_cases q0 : z / 8 % 3 = 0
  · rw [if_pos q0] at hM ⊢
    exact Am.per_of (Mk.am_ok hM) (show mkM1 z most ≤ 40 by omega)
  · rw [if_neg q0] at hM ⊢
    by_cases q1 : z / 8 % 3 = 1
    · rw [if_pos q1] at hM ⊢
      exact ⟨_, _, per_bits hM, by decide⟩
    · rw [if_neg q1] at hM ⊢
      refine Am.per_of (Mk.am_ok hM) ?_
      show (mkN z most).length ≤ 40
      have hn : (mkN z most).length = mkM1 z most := by
        unfold mkN; split
        · rw [(srtN_perm _ _).length_eq, List.length_range]
        · rw [List.length_map, List.length_range]
      omega
theorem sl_fromd {l : List Nat} {k : Nat} (h : k ≤ l.length) : psl (dI l) (some ((k : Nat) : Int)) none = .ok (dI (l.drop k)) := by
  show R.ok (PyData.tuple (cutL (l.map nI) (some (k : Int)) none)) = _
  unfold cutL dI
  congr 2
  have e : HT.sIx (l.map nI).length 0 (some (k : Int)) = k := by
    rw [HT.sIx_nat, List.length_map]; omega
  rw [e]
  show List.take ((l.map nI).length - k) (List.drop k (l.map nI)) = _
  rw [List.take_of_length_le (by rw [List.length_drop]; omega), List.map_drop]
end Iv
end

section
namespace Iv
open PySem
def b_all_rows_L1 : S := (.ext 4 (.comp (.nm 6) (.r1 (.call "faces_many" (.cons (.v 0) .nil))) .no (.bin .add (.v 5) (.tup (.cons (.v 6) .nil))) [6]))
def b_all_rows_L2 : S := (.seq (.setO 4 (.lst .nil)) (.seq (.for_ (.nm 5) (.e (.v 2)) b_all_rows_L1) (.frz 4 (.set 2 (.v 4)))))
def b_all_rows : S := (.seq (.set 2 (.lst (.cons (.tup .nil) .nil))) (.seq (.for_ (.nm 3) (.r1 (.v 1)) b_all_rows_L2) (.ret (.v 2))))
def b_coming : S := (.ret (.bi .dict (.cons (.comp (.nm 2) (.r1 (.call "stands" (.cons (.v 0) .nil))) .no (.tup (.cons (.call "drawn" (.cons (.v 0) (.cons (.v 2) (.cons (.v 1) .nil)))) (.cons (.c (.bool true)) .nil))) [2]) .nil)))
def b_never : S := (.seq (.set 2 (.call "coming" (.cons (.v 0) (.cons (.v 1) .nil)))) (.ret (.bi .tuple (.cons (.comp (.nm 3) (.e (.call "all_rows" (.cons (.v 0) (.cons (.v 1) .nil)))) (.so (.cmp .nin (.v 3) (.v 2))) (.v 3) [3]) .nil))))
def b_first_never_L1 : S := (.seq (.set 2 (.call "never" (.cons (.v 0) (.cons (.v 1) .nil)))) (.iff (.cmp .gt (.bi .len (.cons (.v 2) .nil)) (.c (nI 0))) (.ret (.ix (.v 2) (.c (nI 0)))) .pass))
def b_first_never : S := (.seq (.for_ (.nm 1) (.r2 (.c (nI 1)) (.bin .add (.g "MOST_LONG" (nI 5)) (.c (nI 1)))) b_first_never_L1) (.ret (.c .none)))
def b_law_rows_L1 : S := (.ext 4 (.comp (.nm 6) (.r1 (.v 0)) .no (.bin .add (.v 5) (.tup (.cons (.v 6) .nil))) [6]))
def b_law_rows_L2 : S := (.seq (.setO 4 (.lst .nil)) (.seq (.for_ (.nm 5) (.e (.v 2)) b_law_rows_L1) (.frz 4 (.set 2 (.v 4)))))
def b_law_rows : S := (.seq (.set 2 (.lst (.cons (.tup .nil) .nil))) (.seq (.for_ (.nm 3) (.r1 (.v 1)) b_law_rows_L2) (.ret (.v 2))))
/-! ### rows, in order -/
def lexN : List Nat → List Nat → Bool
  | [], [] => false
  | [], _ :: _ => true
  | _ :: _, [] => false
  | x :: r, y :: t => decide (x < y) || (!decide (y < x) && lexN r t)
theorem toks_dI : ∀ r t : List Nat, PyProof.Rows.lexLt PyProof.Rows.itemOrd (W.keyToksAll (r.map nI)) (W.keyToksAll (t.map nI)) = lexN r t
  | [], [] => by rw [List.map_nil, W.keyToksAll]; rfl
  | [], y :: t => by rw [List.map_nil, List.map_cons, W.keyToksAll, W.keyToksAll]; rfl
  | x :: r, [] => by rw [List.map_nil, List.map_cons, W.keyToksAll, W.keyToksAll]; rfl
  | x :: r, y :: t => by
    rw [List.map_cons, List.map_cons, W.keyToksAll, W.keyToksAll]
    unfold nI
    rw [W.keyToks, W.keyToks]
    have ih := toks_dI r t
    show (_ || (!_ && (PyProof.Rows.itemLt (.inl (x : Int)) (.inl (y : Int)) || (!PyProof.Rows.itemLt (.inl (y : Int)) (.inl (x : Int)) && PyProof.Rows.lexLt PyProof.Rows.itemOrd (W.keyToksAll (r.map fun (n : Nat) => PyData.int n)) (W.keyToksAll (t.map fun (n : Nat) => PyData.int n)))))) = _
    unfold nI at ih
    rw [ih]
    show (decide ((1 : Int) < 1) || (!decide ((1 : Int) < 1) && (decide ((x : Int) < y) || (!decide ((y : Int) < x) && lexN r t)))) = (decide (x < y) || (!decide (y < x) && lexN r t))
    have e1 : decide ((x : Int) < y) = decide (x < y) := by rw [decide_eq_decide]; omega
    have e2 : decide ((y : Int) < x) = decide (y < x) := by rw [decide_eq_decide]; omega
    rw [e1, e2]
    simp
theorem le_dI (r t : List Nat) : W.dataLe false id (dI r) (dI t) = !lexN t r := by
  show (!PyProof.Rows.lexLt PyProof.Rows.itemOrd (W.keyToks (dI t)) (W.keyToks (dI r))) = _
  unfold dI
  rw [W.keyToks, W.keyToks, toks_dI]
theorem sorted_LD {l : List (List Nat)} (hp : l.Pairwise fun a b => lexN b a = false) (hn : ∀ r ∈ l, r ≠ []) (hl : l.length ≤ 1000000) : pbi .sorted [.list (l.map dI)] = .ok (.list (l.map dI)) := by
  have alk : ∀ a b : List Nat, W.alikeAll (a.map nI) (b.map nI) = true := fun a => by
    induction a with
    | nil => intro b; rw [List.map_nil, W.alikeAll]
    | cons x a ih =>
      intro b
      cases b with
      | nil => rw [List.map_nil, List.map_cons, W.alikeAll]
      | cons y b =>
        rw [List.map_cons, List.map_cons, W.alikeAll, ih b]
        unfold nI
        rw [W.alike]; rfl
  have dep : ∀ a : List Nat, PyData.depthAll (a.map nI) = 0 := fun a => by
    induction a with
    | nil => rw [List.map_nil, PyData.depthAll]
    | cons x a ih =>
      rw [List.map_cons, PyData.depthAll, ih]
      unfold nI
      rw [PyData.depth] <;> simp
  have ok : sortOk (l.map dI) = true := by
    unfold sortOk
    rw [Bool.and_eq_true, Bool.and_eq_true, Bool.and_eq_true]
    refine ⟨⟨⟨?_, ?_⟩, ?_⟩, ?_⟩
    · rw [List.all_map, List.all_eq_true]
      intro a _
      show (l.map dI).all (fun d' => W.alike (dI a) d') = true
      rw [List.all_map, List.all_eq_true]
      intro b _
      show W.alike (dI a) (dI b) = true
      unfold dI
      rw [W.alike]; exact alk a b
    · rw [Bool.or_eq_true]
      refine .inl ?_
      rw [List.all_map, List.all_eq_true]
      intro a ha
      cases a with
      | nil => exact (hn _ ha rfl).elim
      | cons x a => rfl
    · rw [List.all_map, List.all_eq_true]
      intro a _
      show decide ((dI a).depth ≤ 64) = true
      unfold dI
      rw [PyData.depth, dep]
      rfl
    · rw [decide_eq_true_eq, List.length_map, LIM_eq]; exact hl
  show (if sortOk (l.map dI) = true then R.ok (PyData.list (srt (l.map dI))) else .bad) = _
  rw [if_pos ok]
  unfold srt
  rw [List.mergeSort_of_pairwise]
  rw [List.pairwise_map]
  exact hp.imp fun h => by rw [le_dI, h]; rfl
/-- all rows of m of k faces, rising -/
def alR (k : Nat) : Nat → List (List Nat)
  | 0 => [[]]
  | m + 1 => (alR k m).flatMap fun r => (List.range k).map fun c => r ++ [c]
theorem mem_alR {k : Nat} : ∀ {m : Nat} {r : List Nat}, r ∈ alR k m ↔ r.length = m ∧ ∀ x ∈ r, x < k
  | 0, r => by
    rw [alR, List.mem_singleton]
    constructor
    · rintro rfl; exact ⟨rfl, fun x hx => nomatch hx⟩
    · rintro ⟨h, _⟩; exact List.length_eq_zero_iff.mp h
  | m + 1, r => by
    rw [alR, List.mem_flatMap]
    constructor
    · rintro ⟨t, ht, hr⟩
      obtain ⟨c, hc, rfl⟩ := List.mem_map.mp hr
      obtain ⟨h1, h2⟩ := mem_alR.mp ht
      refine ⟨by rw [List.length_append, h1]; rfl, fun x hx => ?_⟩
      rcases List.mem_append.mp hx with hx | hx
      · exact h2 x hx
      · rw [List.mem_singleton] at hx
        rw [hx]; exact List.mem_range.mp hc
    · rintro ⟨h1, h2⟩
      have hne : r ≠ [] := fun e => by rw [e] at h1; cases h1
      refine ⟨r.dropLast, mem_alR.mpr ⟨by rw [List.length_dropLast, h1]; rfl, fun x hx => h2 x (List.dropLast_subset _ hx)⟩, List.mem_map.mpr ⟨r.getLast hne, List.mem_range.mpr (h2 _ (List.getLast_mem hne)), List.dropLast_concat_getLast hne⟩⟩
theorem alR_len (k : Nat) : ∀ m, (alR k m).length = k ^ m
  | 0 => rfl
  | m + 1 => by
    rw [alR, List.length_flatMap]
    have : ((alR k m).map fun r => ((List.range k).map fun c => r ++ [c]).length) = (alR k m).map fun _ => k := List.map_congr_left fun r _ => by rw [List.length_map, List.length_range]
    rw [this, List.map_const', List.sum_replicate_nat, alR_len k m, Nat.pow_succ]
theorem lexN_irr : ∀ r : List Nat, lexN r r = false
  | [] => rfl
  | x :: r => by rw [lexN, lexN_irr r]; simp
theorem lexN_app : ∀ {r t : List Nat} (a b : List Nat), r.length = t.length → lexN r t = true → lexN (t ++ b) (r ++ a) = false ∧ lexN (r ++ a) (t ++ b) = true
  | [], [], _, _, _, h => by cases h
  | x :: r, y :: t, a, b, hl, h => by
    rw [lexN, Bool.or_eq_true, Bool.and_eq_true, decide_eq_true_eq, Bool.not_eq_true', decide_eq_false_iff_not] at h
    rw [List.cons_append, List.cons_append, lexN, lexN]
    rcases h with h | ⟨h1, h2⟩
    · have h' : ¬ y < x := by omega
      rw [decide_eq_true h, decide_eq_false h']; exact ⟨by simp, by simp⟩
    · obtain ⟨i1, i2⟩ := lexN_app a b (by simpa using hl) h2
      rw [i1, i2, decide_eq_false h1]
      by_cases q : x < y
      · rw [decide_eq_true q]; exact ⟨by simp, by simp⟩
      · rw [decide_eq_false q]; exact ⟨by simp, by simp⟩
theorem lexN_last : ∀ (r : List Nat) {c d : Nat}, c < d → lexN (r ++ [d]) (r ++ [c]) = false ∧ lexN (r ++ [c]) (r ++ [d]) = true
  | [], c, d, h => by
    have h' : ¬ d < c := by omega
    exact ⟨by simp [lexN, h, h'], by simp [lexN, h, h']⟩
  | x :: r, c, d, h => by
    obtain ⟨i1, i2⟩ := lexN_last r h
    rw [List.cons_append, List.cons_append, lexN, lexN, i1, i2]
    exact ⟨by simp, by simp⟩
theorem alR_inc (k : Nat) : ∀ m, (alR k m).Pairwise fun a b => lexN a b = true
  | 0 => List.pairwise_singleton _ _
  | m + 1 => by
    rw [alR, List.pairwise_flatMap]
    refine ⟨fun r _ => ?_, ?_⟩
    · rw [List.pairwise_map]
      exact (range_inc k).imp fun h => (lexN_last r h).2
    · refine (List.Pairwise.and_mem.mp (alR_inc k m)).imp fun {r t} h a ha b hb => ?_
      obtain ⟨h1, h2, h3⟩ := h
      obtain ⟨c, _, rfl⟩ := List.mem_map.mp ha
      obtain ⟨d, _, rfl⟩ := List.mem_map.mp hb
      exact (lexN_app [c] [d] (by rw [(mem_alR.mp h1).1, (mem_alR.mp h2).1]) h3).2
theorem lexN_asym : ∀ {r t : List Nat}, lexN r t = true → lexN t r = false
  | [], [], h => by cases h
  | [], _ :: _, _ => rfl
  | _ :: _, [], h => by cases h
  | x :: r, y :: t, h => by
    rw [lexN, Bool.or_eq_true, Bool.and_eq_true, decide_eq_true_eq, Bool.not_eq_true', decide_eq_false_iff_not] at h
    rw [lexN]
    rcases h with h | ⟨h1, h2⟩
    · have h' : ¬ y < x := by omega
      rw [decide_eq_true h, decide_eq_false h']; rfl
    · rw [lexN_asym h2, decide_eq_false h1]; simp
end Iv
end

section
/-! Ak: more of rounds. -/
namespace Iv
namespace Am
variable {A : Am}
theorem tl_go (h : A.Ok) {s : Nat} (hs : s < A.n) : ∀ d, A.tl (A.go s d) = A.tl s - d
  | 0 => by rw [Nat.sub_zero]; rfl
  | d + 1 => by
    rw [A.go_succ, (step_tl h (go_lt h hs d)).1, tl_go h hs d]; omega
theorem rd_go (h : A.Ok) {s : Nat} (hs : s < A.n) : ∀ d, A.rd (A.go s d) = A.rd s
  | 0 => rfl
  | d + 1 => by
    rw [A.go_succ, (step_tl h (go_lt h hs d)).2, rd_go h hs d]
theorem no_sooner (h : A.Ok) {s f : Nat} (hs : s < A.n) (h1 : 1 ≤ f) (h2 : f < A.rd s) : A.go (A.go s (A.tl s)) f ≠ A.go s (A.tl s) := fun e => by
  have R := (rho h hs).1
  rw [← A.go_add] at e
  have := R.inj _ _ (by omega) (by omega) e
  omega
theorem ahead_no (h : A.Ok) {s : Nat} (hs : s < A.n) (h1 : 0 < A.tl s) : A.go (A.go s (A.tl s - 1)) (A.rd s) ≠ A.go s (A.tl s - 1) := fun e => by
  have R := (rho h hs).1
  have hr := R.r1
  rw [← A.go_add] at e
  have := R.inj _ _ (by omega) (by omega) e
  omega
theorem far (h : A.Ok) {s m : Nat} (hs : s < A.n) (h1 : A.tl s ≤ m) : A.go s m = A.go (A.go s (A.tl s)) ((m - A.tl s) % A.rd s) := by
  have R := (rho h hs).1
  rw [← A.go_add, ← R.mod]
  congr 1; omega
theorem cyc_cons (h : A.Ok) {m : Nat} (hm : m < A.n) (h0 : A.tl m = 0) : ∃ r, A.cyc m = m :: r := by
  have hr := (tl_lt h hm).2.1
  rw [cyc_eq h hm, h0]
  obtain ⟨k, e⟩ : ∃ k, A.rd m = k + 1 := ⟨A.rd m - 1, by omega⟩
  rw [e, List.range_succ_eq_map, List.map_cons]
  exact ⟨_, rfl⟩
theorem cyc_next (h : A.Ok) {m i : Nat} (hm : m < A.n) (h0 : A.tl m = 0) (hi : i < (A.cyc m).length) : A.f ((A.cyc m)[i]?.getD 0) = (A.cyc m)[(i + 1) % (A.cyc m).length]?.getD 0 := by
  have hl := cyc_len h hm
  have hr := (tl_lt h hm).2.1
  have R := (rho h hm).1
  have at_ : ∀ j, j < A.rd m → (A.cyc m)[j]?.getD 0 = A.go m j := fun j hj => by
    rw [cyc_eq h hm, List.getElem?_map, List.getElem?_range hj, h0]
    show A.go m (0 + j) = _
    rw [Nat.zero_add]
  rw [hl] at hi ⊢
  rw [at_ i hi, at_ _ (Nat.mod_lt _ (by omega)), ← A.go_succ]
  have := R.mod (i + 1)
  rw [h0, Nat.zero_add, Nat.zero_add] at this
  exact this
theorem flat_mem (h : A.Ok) {s : Nat} (hs : s < A.n) : s ∈ (A.rds A.n).flatten ↔ A.tl s = 0 := by
  rw [List.mem_flatten]
  constructor
  · rintro ⟨c, hc, hin⟩
    obtain ⟨m, hm, hr, rfl⟩ := mem_rds.mp hc
    exact (cyc_in h hm (isR_iff.mp hr).1 hin).1
  · intro h0
    obtain ⟨m, h1, h2, h3, h4, h5⟩ := cyc_min h hs h0
    exact ⟨A.cyc m, mem_rds.mpr ⟨m, h3, h4, rfl⟩, h5⟩
theorem cyc_nodup (h : A.Ok) {m : Nat} (hm : m < A.n) : (A.cyc m).Nodup := by
  have R := (rho h hm).1
  rw [cyc_eq h hm, List.Nodup, List.pairwise_map]
  refine List.Pairwise.imp_of_mem (fun {i j} hi hj hij e => ?_) (List.pairwise_lt_range (n := A.rd m))
  have := R.inj _ _ (by have := List.mem_range.mp hi; omega) (by have := List.mem_range.mp hj; omega) e
  omega
theorem rds_inc (h : A.Ok) : (A.rds A.n).Pairwise fun a b => ∃ x y l l', a = x :: l ∧ b = y :: l' ∧ x < y := by
  unfold rds
  rw [List.pairwise_map]
  refine List.Pairwise.imp_of_mem (fun {x y} hx hy hxy => ?_) ((List.pairwise_lt_range (n := A.n)).filter A.isR)
  rw [List.mem_filter, List.mem_range] at hx hy
  obtain ⟨l, e1⟩ := cyc_cons h hx.1 (isR_iff.mp hx.2).1
  obtain ⟨l', e2⟩ := cyc_cons h hy.1 (isR_iff.mp hy.2).1
  exact ⟨x, y, l, l', e1, e2, hxy⟩
theorem flat_nodup (h : A.Ok) : ((A.rds A.n).flatten).Nodup := by
  rw [List.Nodup, List.pairwise_flatten]
  refine ⟨fun c hc => ?_, ?_⟩
  · obtain ⟨m, hm, _, rfl⟩ := mem_rds.mp hc
    exact cyc_nodup h hm
  · unfold rds
    rw [List.pairwise_map]
    refine List.Pairwise.imp_of_mem (fun {x y} hx hy hxy z hz w hw e => ?_) ((List.pairwise_lt_range (n := A.n)).filter A.isR)
    subst e
    rw [List.mem_filter, List.mem_range] at hx hy
    obtain ⟨x0, _⟩ := isR_iff.mp hx.2
    obtain ⟨y0, y1⟩ := isR_iff.mp hy.2
    obtain ⟨_, _, _, hxz⟩ := cyc_in h hx.1 x0 hz
    have := y1 x (cyc_trans h hy.1 y0 hw hxz)
    omega
theorem flat_perm (h : A.Ok) : ((A.rds A.n).flatten).Perm ((List.range A.n).filter fun s => decide (A.tl s = 0)) := by
  have sub : ∀ s ∈ (A.rds A.n).flatten, s < A.n := fun s hs => by
    obtain ⟨c, hc, hin⟩ := List.mem_flatten.mp hs
    obtain ⟨m, hm, _, rfl⟩ := mem_rds.mp hc
    exact cyc_lt h hm s hin
  refine (List.perm_ext_iff_of_nodup (flat_nodup h) (List.nodup_range.filter _)).mpr fun s => ?_
  rw [List.mem_filter, List.mem_range, decide_eq_true_eq]
  constructor
  · intro hs
    exact ⟨sub s hs, (flat_mem h (sub s hs)).mp hs⟩
  · rintro ⟨h1, h2⟩
    exact (flat_mem h h1).mpr h2
end Am
end Iv
end

section
/-! Pe: tuples in built-ins. -/
namespace Iv
open PySem
def mnN : Nat → List Nat → Nat
  | m, [] => m
  | m, x :: r => mnN (if x < m then x else m) r
theorem minOf_N : ∀ (l : List Nat) (m : Nat), minOf m (l.map fun (i : Nat) => (i : Int)) = (mnN m l : Nat)
  | [], m => by rw [List.map_nil, minOf]; rfl
  | x :: l, m => by
    rw [List.map_cons, minOf, mnN]
    by_cases h : x < m
    · rw [if_pos h, if_pos (by omega)]; exact minOf_N l x
    · rw [if_neg h, if_neg (by omega)]; exact minOf_N l m
theorem mnN_le : ∀ (l : List Nat) (m : Nat), (∀ x ∈ l, m ≤ x) → mnN m l = m
  | [], m, _ => rfl
  | x :: l, m, h => by
    have := h x (.head _)
    rw [mnN, if_neg (by omega)]
    exact mnN_le l m fun y hy => h y (.tail _ hy)
theorem min_dI {x : Nat} {r : List Nat} : pbi .min [dI (x :: r)] = .ok (nI (mnN x r)) := by
  show (match intsOf ((x :: r).map nI) with | some (x :: r) => R.ok (PyData.int (minOf x r)) | _ => .bad) = _
  rw [intsOf_nI]
  show R.ok (PyData.int (minOf x (r.map fun (i : Nat) => (i : Int)))) = _
  rw [minOf_N]; rfl
theorem min_lI {x : Nat} {r : List Nat} : pbi .min [lI (x :: r)] = .ok (nI (mnN x r)) := by
  show (match intsOf ((x :: r).map nI) with | some (x :: r) => R.ok (PyData.int (minOf x r)) | _ => .bad) = _
  rw [intsOf_nI]
  show R.ok (PyData.int (minOf x (r.map fun (i : Nat) => (i : Int)))) = _
  rw [minOf_N]; rfl
theorem sorted_TD {l : List (List Nat)} (hp : l.Pairwise fun a b => lexN b a = false) (hn : ∀ r ∈ l, r ≠ []) (hl : l.length ≤ 1000000) : pbi .sorted [.tuple (l.map dI)] = .ok (.list (l.map dI)) := sorted_LD hp hn hl
theorem sorted_D {l : List Nat} (h : l.length ≤ 1000000) : pbi .sorted [dI l] = .ok (lI (nsort l)) := sorted_I h
theorem enum_T {α : Type} (e : α → PyData) (l : List α) : penum (.tuple (l.map e)) = .ok (((List.range l.length).zip l).map fun q => .tuple [nI q.1, e q.2]) := by
  show R.ok ((List.range (l.map e).length).zipWith (fun i d => PyData.tuple [.int (i : Nat), d]) (l.map e)) = _
  rw [List.length_map, List.zip, List.map_zipWith, List.zipWith_map_right]
  rfl
theorem enum_L {α : Type} (e : α → PyData) (l : List α) : penum (.list (l.map e)) = .ok (((List.range l.length).zip l).map fun q => .tuple [nI q.1, e q.2]) := enum_T e l
theorem mem_enum {α : Type} {l : List α} {q : Nat × α} (h : q ∈ (List.range l.length).zip l) : l[q.1]? = some q.2 := by
  obtain ⟨j, hj, e⟩ := List.getElem_of_mem h
  rw [List.getElem_zip] at e
  subst e
  rw [List.getElem_range]
  rw [List.length_zip, List.length_range] at hj
  exact List.getElem?_eq_getElem (by omega)
theorem lay_LDs (l : List (List Nat)) : lay 64 (.list (l.map dI)) = true := lay_LD l
theorem LD_inj (a b : List (List Nat)) (h : PyData.list (a.map dI) = .list (b.map dI)) : a = b := by injection h with h; exact map_inj (fun _ _ => dI_inj _ _) _ _ h
theorem nob_LD (l : List (List Nat)) : nob (.list (l.map dI)) = true := by rw [nob_list]; exact nob_map l dI nob_dI
theorem eq_LDs (a b : List (List Nat)) : pcmp .eq (.list (a.map dI)) (.list (b.map dI)) = .ok (decide (a = b)) := eq_enc (e := fun l => PyData.list (l.map dI)) lay_LD nob_LD LD_inj a b
theorem DD_inj (a b : List (List Nat)) (h : PyData.tuple (a.map dI) = .tuple (b.map dI)) : a = b := by injection h with h; exact map_inj (fun _ _ => dI_inj _ _) _ _ h
theorem nob_DD (l : List (List Nat)) : nob (.tuple (l.map dI)) = true := by rw [nob_tuple]; exact nob_map l dI nob_dI
theorem eq_DDs (a b : List (List Nat)) : pcmp .eq (.tuple (a.map dI)) (.tuple (b.map dI)) = .ok (decide (a = b)) := eq_enc (e := fun l => PyData.tuple (l.map dI)) lay_DD nob_DD DD_inj a b
theorem ne_DDs (a b : List (List Nat)) : pcmp .ne (.tuple (a.map dI)) (.tuple (b.map dI)) = .ok (!decide (a = b)) := ne_enc (e := fun l => PyData.tuple (l.map dI)) lay_DD nob_DD DD_inj a b
end Iv
end

section
namespace Lk11
open PySem Iv
def b_law_are_rounds_L1 : S := (.iff (.cmp .ne (.call "step" (.cons (.v 0) (.cons (.v 6) .nil))) (.ix (.v 4) (.bin .mod (.bin .add (.v 5) (.c (nI 1))) (.bi .len (.cons (.v 4) .nil))))) (.ret (.c (.bool false))) .pass)
def b_law_are_rounds_L2 : S := (.seq (.set 3 (.bin .add (.v 3) (.v 4))) (.seq (.iff (.or (.cmp .ne (.ix (.v 4) (.c (nI 0))) (.bi .min (.cons (.v 4) .nil))) (.cmp .ne (.bi .len (.cons (.v 4) .nil)) (.call "round_of" (.cons (.v 0) (.cons (.ix (.v 4) (.c (nI 0))) .nil))))) (.ret (.c (.bool false))) .pass) (.for_ (.tup (.cons (.nm 5) (.cons (.nm 6) .nil))) (.enum (.v 4)) b_law_are_rounds_L1)))
def b_law_are_rounds : S := (.seq (.set 2 (.call "rounds" (.cons (.v 0) .nil))) (.seq (.set 3 (.tup .nil)) (.seq (.for_ (.nm 4) (.e (.v 2)) b_law_are_rounds_L2) (.seq (.set 7 (.comp (.nm 6) (.r1 (.v 1)) (.so (.cmp .eq (.call "tail" (.cons (.v 0) (.cons (.v 6) .nil))) (.c (nI 0)))) (.v 6) [6])) (.ret (.and (.cmp .eq (.bi .list (.cons (.v 2) .nil)) (.bi .sorted (.cons (.v 2) .nil))) (.cmp .eq (.bi .sorted (.cons (.v 3) .nil)) (.v 7))))))))
def b_law_L1 : S := (.iff (.cmp .eq (.call "behind" (.cons (.v 1) (.cons (.v 6) (.cons (.v 7) .nil)))) (.v 6)) (.ret (.c (.bool false))) .pass)
def b_law_14 : S := (.seq (.iff (.not (.call "_law_are_rounds" (.cons (.v 1) (.cons (.v 2) .nil)))) (.ret (.c (.bool false))) .pass) (.seq (.set 12 (.comp (.nm 13) (.r1 (.v 2)) .no (.call "step" (.cons (.v 1) (.cons (.v 13) .nil))) [13])) (.seq (.set 14 (.comp (.nm 13) (.r1 (.v 2)) (.so (.cmp .nin (.v 13) (.v 12))) (.v 13) [13])) (.seq (.iff (.cmp .ne (.call "lost" (.cons (.v 1) .nil)) (.bi .tuple (.cons (.v 14) .nil))) (.ret (.c (.bool false))) .pass) (.seq (.set 7 (.bin .mod (.v 10) (.c (nI 60)))) (.seq (.set 15 (.call "drawn" (.cons (.v 1) (.cons (.v 3) (.cons (.v 7) .nil))))) (.seq (.iff (.or (.cmp .ne (.call "drawn" (.cons (.call "as_table" (.cons (.v 1) .nil)) (.cons (.v 3) (.cons (.v 7) .nil)))) (.v 15)) (.cmp .ne (.bi .len (.cons (.v 15) .nil)) (.v 7))) (.ret (.c (.bool false))) .pass) (.ret (.cmp .eq (.call "drawn" (.cons (.v 1) (.cons (.v 3) (.cons (.bin .add (.v 7) (.c (nI 9))) .nil)))) (.bin .add (.v 15) (.call "drawn" (.cons (.v 1) (.cons (.call "behind" (.cons (.v 1) (.cons (.v 3) (.cons (.v 7) .nil)))) (.cons (.c (nI 9)) .nil))))))))))))))
def b_law_10 : S := (.seq (.set 9 (.bin .mod (.call "_law_mixed" (.cons (.v 0) (.cons (.c (nI 2)) .nil))) (.c (nI 1000000000000)))) (.seq (.set 10 (.bin .mod (.call "_law_mixed" (.cons (.v 0) (.cons (.c (nI 3)) .nil))) (.c (nI 1000)))) (.seq (.iff (.cmp .ne (.call "behind" (.cons (.v 1) (.cons (.call "behind" (.cons (.v 1) (.cons (.v 3) (.cons (.v 9) .nil)))) (.cons (.v 10) .nil)))) (.call "behind" (.cons (.v 1) (.cons (.v 3) (.cons (.bin .add (.v 9) (.v 10)) .nil))))) (.ret (.c (.bool false))) .pass) (.seq (.iff (.cmp .ge (.v 9) (.v 4)) (.seq (.set 11 (.call "behind" (.cons (.v 1) (.cons (.v 6) (.cons (.bin .mod (.bin .sub (.v 9) (.v 4)) (.v 5)) .nil))))) (.iff (.cmp .ne (.call "behind" (.cons (.v 1) (.cons (.v 3) (.cons (.v 9) .nil)))) (.v 11)) (.ret (.c (.bool false))) .pass)) .pass) b_law_14))))
def b_law_9 : S := (.seq (.iff (.cmp .gt (.v 4) (.c (nI 0))) (.seq (.set 8 (.call "behind" (.cons (.v 1) (.cons (.v 3) (.cons (.bin .sub (.v 4) (.c (nI 1))) .nil))))) (.iff (.or (.cmp .ne (.call "tail" (.cons (.v 1) (.cons (.v 8) .nil))) (.c (nI 1))) (.cmp .eq (.call "behind" (.cons (.v 1) (.cons (.v 8) (.cons (.v 5) .nil)))) (.v 8))) (.ret (.c (.bool false))) .pass)) .pass) b_law_10)
def b_law_7 : S := (.seq (.iff (.or (.not (.chain .le .le (.c (nI 1)) (.v 5) (.v 2))) (.not (.chain .le .lt (.c (nI 0)) (.v 4) (.v 2)))) (.ret (.c (.bool false))) .pass) (.seq (.for_ (.nm 7) (.r2 (.c (nI 1)) (.v 5)) b_law_L1) b_law_9))
def b_law : S := (.seq (.set 1 (.call "_law_maker" (.cons (.call "_law_mixed" (.cons (.v 0) (.cons (.c (nI 0)) .nil))) (.cons (.c (nI 64)) .nil)))) (.seq (.set 2 (.call "stands" (.cons (.v 1) .nil))) (.seq (.set 3 (.bin .mod (.call "_law_mixed" (.cons (.v 0) (.cons (.c (nI 1)) .nil))) (.v 2))) (.seq (.set 4 (.call "tail" (.cons (.v 1) (.cons (.v 3) .nil)))) (.seq (.set 5 (.call "round_of" (.cons (.v 1) (.cons (.v 3) .nil)))) (.seq (.set 6 (.call "behind" (.cons (.v 1) (.cons (.v 3) (.cons (.v 4) .nil))))) (.seq (.iff (.or (.cmp .ne (.call "behind" (.cons (.v 1) (.cons (.v 6) (.cons (.v 5) .nil)))) (.v 6)) (.cmp .ne (.call "tail" (.cons (.v 1) (.cons (.v 6) .nil))) (.c (nI 0)))) (.ret (.c (.bool false))) .pass) b_law_7)))))))
def d_power : Def := { name := "power", nps := 2, N := ["base", "many", "found", "turn"], body := b_power }
def d_stands : Def := { name := "stands", nps := 1, N := ["maker"], body := b_stands }
def d_step : Def := { name := "step", nps := 2, N := ["maker", "stand", "odd", "tap"], body := b_step }
def d_faces_many : Def := { name := "faces_many", nps := 1, N := ["maker"], body := b_faces_many }
def d_face : Def := { name := "face", nps := 2, N := ["maker", "stand"], body := b_face }
def d_as_table : Def := { name := "as_table", nps := 1, N := ["maker", "nexts", "stand", "sides"], body := b_as_table }
def d_drawn : Def := { name := "drawn", nps := 3, N := ["maker", "stand", "many", "found", "turn"], body := b_drawn }
def d_behind : Def := { name := "behind", nps := 3, N := ["maker", "stand", "many", "nexts", "one", "goal"], body := b_behind }
def d_walk : Def := { name := "walk", nps := 2, N := ["maker", "stand", "found"], body := b_walk }
def d_tail : Def := { name := "tail", nps := 2, N := ["maker", "stand", "found", "again"], body := b_tail }
def d_round_from : Def := { name := "round_from", nps := 2, N := ["maker", "stand", "found", "again"], body := b_round_from }
def d_round_of : Def := { name := "round_of", nps := 2, N := ["maker", "stand"], body := b_round_of }
def d_rounds : Def := { name := "rounds", nps := 1, N := ["maker", "found", "stand", "row"], body := b_rounds }
def d_lost : Def := { name := "lost", nps := 1, N := ["maker", "goals", "stand"], body := b_lost }
def d_law_cell_at : Def := { name := "_law_cell_at", nps := 2, N := ["_law_script", "_law_k"], body := b_law_cell_at }
def d_law_mixed : Def := { name := "_law_mixed", nps := 2, N := ["_law_script", "_law_k", "_law_drew"], body := b_law_mixed }
def d_law_drawn : Def := { name := "_law_drawn", nps := 2, N := ["_law_number", "_law_k", "_law_drew"], body := b_law_drawn }
def d_law_maker : Def := { name := "_law_maker", nps := 2, N := ["_law_number", "_law_most", "_law_faces", "_law_kind", "_law_drew", "_law_many", "_law_taps", "_law_tap", "_law_nexts", "_law_k", "_law_one", "_law_sides"], body := b_law_maker, lam := true }
def d_law_are_rounds : Def := { name := "_law_are_rounds", nps := 2, N := ["_law_maker_here", "_law_many", "_law_every", "_law_places", "_law_row", "_law_at", "_law_here", "_law_short"], body := b_law_are_rounds }
def d_law : Def := { name := "law", nps := 1, N := ["_law_script", "_law_maker_here", "_law_many", "_law_stand", "_law_ahead", "_law_long", "_law_there", "_law_few", "_law_last", "_law_one", "_law_other", "_law_goal", "_law_goals", "_law_here", "_law_alone", "_law_row"], body := b_law }
def DS : List Def := [d_power, d_stands, d_step, d_faces_many, d_face, d_as_table, d_drawn, d_behind, d_walk, d_tail, d_round_from, d_round_of, d_rounds, d_lost, d_law_cell_at, d_law_mixed, d_law_drawn, d_law_maker, d_law_are_rounds, d_law]
instance : Has DS "power" 2 4 b_power := ⟨_, rfl, rfl, rfl, rfl⟩
instance : Has DS "stands" 1 1 b_stands := ⟨_, rfl, rfl, rfl, rfl⟩
instance : Has DS "step" 2 4 b_step := ⟨_, rfl, rfl, rfl, rfl⟩
instance : Has DS "faces_many" 1 1 b_faces_many := ⟨_, rfl, rfl, rfl, rfl⟩
instance : Has DS "face" 2 2 b_face := ⟨_, rfl, rfl, rfl, rfl⟩
instance : Has DS "as_table" 1 4 b_as_table := ⟨_, rfl, rfl, rfl, rfl⟩
instance : Has DS "drawn" 3 5 b_drawn := ⟨_, rfl, rfl, rfl, rfl⟩
instance : Has DS "behind" 3 6 b_behind := ⟨_, rfl, rfl, rfl, rfl⟩
instance : Has DS "walk" 2 3 b_walk := ⟨_, rfl, rfl, rfl, rfl⟩
instance : Has DS "tail" 2 4 b_tail := ⟨_, rfl, rfl, rfl, rfl⟩
instance : Has DS "round_from" 2 4 b_round_from := ⟨_, rfl, rfl, rfl, rfl⟩
instance : Has DS "round_of" 2 2 b_round_of := ⟨_, rfl, rfl, rfl, rfl⟩
instance : Has DS "rounds" 1 4 b_rounds := ⟨_, rfl, rfl, rfl, rfl⟩
instance : Has DS "lost" 1 3 b_lost := ⟨_, rfl, rfl, rfl, rfl⟩
instance : Has DS "_law_cell_at" 2 2 b_law_cell_at := ⟨_, rfl, rfl, rfl, rfl⟩
instance : Has DS "_law_mixed" 2 3 b_law_mixed := ⟨_, rfl, rfl, rfl, rfl⟩
instance : Has DS "_law_drawn" 2 3 b_law_drawn := ⟨_, rfl, rfl, rfl, rfl⟩
instance : Has DS "_law_maker" 2 12 b_law_maker := ⟨_, rfl, rfl, rfl, rfl⟩
instance : Has DS "_law_are_rounds" 2 8 b_law_are_rounds := ⟨_, rfl, rfl, rfl, rfl⟩
instance : Has DS "law" 1 16 b_law := ⟨_, rfl, rfl, rfl, rfl⟩
end Lk11
namespace Lk11
open PySem Iv
/-! _law_are_rounds -/
theorem cat_nil (l : List Nat) : pbin .add (dI []) (dI l) = pbin .add (dI []) (dI l) := rfl
theorem lexN_gt {x y : Nat} {l l' : List Nat} (h : x < y) : lexN (y :: l') (x :: l) = false := by
  rw [lexN]
  have h1 : ¬ y < x := by omega
  rw [decide_eq_false h1, decide_eq_true h]; rfl
theorem b_tup2 (i j : Nat) (a b : PyData) (ρ : Iv.Env) : bindT (.tup (.cons (.nm i) (.cons (.nm j) .nil))) (.tuple [a, b]) ρ = some ((ρ.set i (.val a)).set j (.val b)) := by
  simp only [b_tup, bs_cons, b_nm, b_some, bs_nil]
section
variable {M : Mk} (hM : M.ok)
include hM
theorem one_row {c : List Nat} (hc : c ∈ M.am.rds M.am.n) (x2 x3 x5 x6 x7 : Slot) (q : List Nat) (hq : q.length + c.length ≤ 1000000) :
    ∃ z : Slot × Slot, ex (runF DS 14) b_law_are_rounds_L2 [.val M.d, .val (nI M.am.n), x2, .val (dI q), .val (dI c), x5, x6, x7] = .nx [.val M.d, .val (nI M.am.n), x2, .val (dI (q ++ c)), .val (dI c), z.1, z.2, x7] := by
  have hA := Mk.am_ok hM
  obtain ⟨m, hm, hr, rfl⟩ := Am.mem_rds.mp hc
  obtain ⟨h0, hle⟩ := Am.isR_iff.mp hr
  obtain ⟨r, er⟩ := Am.cyc_cons hA hm h0
  have hl := Am.cyc_len hA hm
  have hlt := Am.cyc_lt hA hm
  have hof : runF DS 14 "round_of" [M.d, nI m] = .ok (nI (M.am.rd m)) := r_rof 8 hM hm
  have hmn : pbi .min [dI (M.am.cyc m)] = .ok (nI m) := by
    rw [er, min_dI, mnN_le r m fun x hx => hle x (by rw [er]; exact .tail _ hx)]
  have hfst : pix (dI (M.am.cyc m)) (nI 0) = .ok (nI m) := by rw [er]; exact ix_t0 _ _
  have hen : penum (dI (M.am.cyc m)) = _ := enum_T nI (M.am.cyc m)
  have hpos : 0 < (M.am.cyc m).length := by rw [er]; exact Nat.succ_pos _
  have h64 := hA.le
  have hcl : (M.am.cyc m).length ≤ 64 := by rw [hl]; have := (Am.tl_lt hA hm).2.2; omega
  have lp := forS_keep (F := runF DS 14) (b := b_law_are_rounds_L1) (t := .tup (.cons (.nm 5) (.cons (.nm 6) .nil))) (enc := fun q : Nat × Nat => .tuple [nI q.1, nI q.2]) (l := (List.range (M.am.cyc m).length).zip (M.am.cyc m))
    (fun (z : Slot × Slot) => [.val M.d, .val (nI M.am.n), x2, .val (dI (q ++ M.am.cyc m)), .val (dI (M.am.cyc m)), z.1, z.2, x7]) (fun p hp z => by
      have hat := mem_enum hp
      obtain ⟨hi, e⟩ := List.getElem?_eq_some_iff.mp hat
      have hin := hlt p.2 (List.mem_of_getElem? hat)
      have hst : runF DS 14 "step" [M.d, nI p.2] = .ok (nI (M.am.f p.2)) := r_step 11 hM hin
      have hnx := Am.cyc_next hA hm h0 hi
      rw [hat] at hnx
      have hmod : (p.1 + 1) % (M.am.cyc m).length < (M.am.cyc m).length := Nat.mod_lt _ hpos
      have hix : pix (dI (M.am.cyc m)) (nI ((p.1 + 1) % (M.am.cyc m).length)) = .ok (nI (M.am.f p.2)) := by
        rw [ix_dI hmod, ← hnx]; rfl
      refine ⟨_, (.val (nI p.1), .val (nI p.2)), b_tup2 _ _ _ _ _, ?_⟩
      simp (disch := first | omega | with_reducible assumption | (simp only [List.length_cons, List.length_nil, List.length_append, List.length_map, List.length_range, Am.row_len]; omega)) only [b_law_are_rounds_L1, v_c, v_g, v_v, v_bin, v_neg, v_cmp, v_chain, v_and, v_or, v_not, v_ix, v_sl, v_rev, v_tup, v_lst, v_call, v_bi, v_rng, v_srtSet, v_meth, v_isi, v_dnew, v_srtKey, vs_nil, vs_cons, vr_nil, vr_cons, vo_no, vo_so, vc_e, vc_own, vc_1, vc_2, vc_en, vc_zip, v_comp1, v_comp1c, v_comp2, x_pass, x_seq, x_frz, x_set, x_setO, x_unp, x_par, x_par3, x_iff, x_ret, x_retN, x_rai, x_exp, x_cont, x_for, x_whl, x_app, x_ext, x_pop0, x_setIx, own_s, kApp_L, kApp_I, kExt_L, kExt_I, kSet_L, kSet_I, kSet_T, kSet_K, R.bind_ok, R.fl_ok, R.nox_ok, then_kS, fl_kFor, then_rt, then_exc, toR_rt, toR_exc, asB_b, rd_val, rd_own, onx_s, List.getElem?_cons_zero, List.getElem?_cons_succ, List.set_cons_zero, List.set_cons_succ, List.map_cons, List.map_nil, List.cons_append, List.nil_append, List.replicate_succ, List.replicate_zero, Nat.reduceSub, Nat.sub_zero, cond_true, cond_false, cond_b1, cond_b2, Bool.not_true, Bool.not_false, List.length_cons, List.length_nil, Nat.zero_add, Nat.reduceAdd, b_nm, b_tup, bs_nil, bs_cons, b_some, frzE, own_I, own_L, own_T, own_K, n_add, n_mulL, n_mulR, n_sub, n_mod, n_div, n_lt, n_le, n_gt, n_ge, n_eq, n_ne, n_neg, ↓cmpr_map, ↓cmpA_map, ↓cmpA_range, cmpA_ok, cmpA_okc, cmpN_ok, cmpN_okc, cmpA_none, cmpN_none, gd_t, gd_k, r1_n, rng_t, rng_l, psk_ok, ix_t0, ix_t1, ix_t2, ix_t3, ix_t4, ix_m4, ix_m5, ix_dI, ix_lI, len_t, len_l, len_dI, len_lI, src_d, src_l, src_L, src_T, srcO_L, srcO_I, tup_l, tup_lI, tup_t, tup_dI, lst_dI, lst_lI, lst_t, fold_lI, fold_dI, sum_lI, cat_dI, tup1_n, tup0_n, lst0_n, papp_I, papp_L, fold_snoc, fold_set, pext_L, psetI_I, psetL_I, fold_l, fold_t, fold_l1, pss_l, pss_d, in_lI, in_dI, nin_lI, nin_dI, meOk_i, meOk_L, me_idx, sl_from, sl_to, plo_n, plo_j, isi_ni, isi_nb, isi_nt, isi_dt, isi_tt, isi_ss, all_b, any_b, eq_lI, eq_dI, ne_lI, ne_dI, int_b, min_n, max_n, mul_lI, cat_lI, sorted_I, eq_bb, ne_bb, map_dsnoc, sub_01, max_0j, ne_LD, ne_DD, hst, hix, decide_true, decide_false, decide_eq_true, decide_eq_false, Bool.and_true, Bool.true_and, Bool.and_false, Bool.false_and, Bool.or_true, Bool.true_or, Bool.or_false, Bool.false_or, Bool.not_true, Bool.not_false]) (x5, x6)
  obtain ⟨z, hz⟩ := lp
  refine ⟨z, ?_⟩
  simp (disch := first | omega | with_reducible assumption | (simp only [List.length_cons, List.length_nil, List.length_append, List.length_map, List.length_range, Am.row_len]; omega)) only [b_law_are_rounds_L2, v_c, v_g, v_v, v_bin, v_neg, v_cmp, v_chain, v_and, v_or, v_not, v_ix, v_sl, v_rev, v_tup, v_lst, v_call, v_bi, v_rng, v_srtSet, v_meth, v_isi, v_dnew, v_srtKey, vs_nil, vs_cons, vr_nil, vr_cons, vo_no, vo_so, vc_e, vc_own, vc_1, vc_2, vc_en, vc_zip, v_comp1, v_comp1c, v_comp2, x_pass, x_seq, x_frz, x_set, x_setO, x_unp, x_par, x_par3, x_iff, x_ret, x_retN, x_rai, x_exp, x_cont, x_for, x_whl, x_app, x_ext, x_pop0, x_setIx, own_s, kApp_L, kApp_I, kExt_L, kExt_I, kSet_L, kSet_I, kSet_T, kSet_K, R.bind_ok, R.fl_ok, R.nox_ok, then_kS, fl_kFor, then_rt, then_exc, toR_rt, toR_exc, asB_b, rd_val, rd_own, onx_s, List.getElem?_cons_zero, List.getElem?_cons_succ, List.set_cons_zero, List.set_cons_succ, List.map_cons, List.map_nil, List.cons_append, List.nil_append, List.replicate_succ, List.replicate_zero, Nat.reduceSub, Nat.sub_zero, cond_true, cond_false, cond_b1, cond_b2, Bool.not_true, Bool.not_false, List.length_cons, List.length_nil, Nat.zero_add, Nat.reduceAdd, b_nm, b_tup, bs_nil, bs_cons, b_some, frzE, own_I, own_L, own_T, own_K, n_add, n_mulL, n_mulR, n_sub, n_mod, n_div, n_lt, n_le, n_gt, n_ge, n_eq, n_ne, n_neg, ↓cmpr_map, ↓cmpA_map, ↓cmpA_range, cmpA_ok, cmpA_okc, cmpN_ok, cmpN_okc, cmpA_none, cmpN_none, gd_t, gd_k, r1_n, rng_t, rng_l, psk_ok, ix_t0, ix_t1, ix_t2, ix_t3, ix_t4, ix_m4, ix_m5, ix_dI, ix_lI, len_t, len_l, len_dI, len_lI, src_d, src_l, src_L, src_T, srcO_L, srcO_I, tup_l, tup_lI, tup_t, tup_dI, lst_dI, lst_lI, lst_t, fold_lI, fold_dI, sum_lI, cat_dI, tup1_n, tup0_n, lst0_n, papp_I, papp_L, fold_snoc, fold_set, pext_L, psetI_I, psetL_I, fold_l, fold_t, fold_l1, pss_l, pss_d, in_lI, in_dI, nin_lI, nin_dI, meOk_i, meOk_L, me_idx, sl_from, sl_to, plo_n, plo_j, isi_ni, isi_nb, isi_nt, isi_dt, isi_tt, isi_ss, all_b, any_b, eq_lI, eq_dI, ne_lI, ne_dI, int_b, min_n, max_n, mul_lI, cat_lI, sorted_I, eq_bb, ne_bb, map_dsnoc, sub_01, max_0j, ne_LD, ne_DD, hfst, hmn, hof, hl, hen, decide_true, decide_false, decide_eq_true, decide_eq_false, Bool.and_true, Bool.true_and, Bool.and_false, Bool.false_and, Bool.or_true, Bool.true_or, Bool.or_false, Bool.false_or, Bool.not_true, Bool.not_false]
  rw [hl] at hz
  exact hz
theorem r_are : runF DS 15 "_law_are_rounds" [M.d, nI M.am.n] = .ok (.bool true) := by
  have hA := Mk.am_ok hM
  have h64 := hA.le
  have hsum := Am.rds_sum hA
  have hrl := Am.rds_len (A := M.am) M.am.n
  rw [run_has 14 _ rfl]
  have hro : runF DS 14 "rounds" [M.d] = .ok (.tuple ((M.am.rds M.am.n).map dI)) := r_rounds 8 hM
  have htl : ∀ s, s < M.am.n → runF DS 14 "tail" [M.d, nI s] = .ok (nI (M.am.tl s)) := fun s hs => r_tail 9 hM hs
  obtain ⟨⟨z5, z6⟩, hz⟩ := forS_ls (F := runF DS 14) (b := b_law_are_rounds_L2) (t := 4) (enc := dI) (l := M.am.rds M.am.n) (ρ0 := [.val M.d, .val (nI M.am.n), .val (.tuple ((M.am.rds M.am.n).map dI)), .val (dI []), .nul, .nul, .nul, .nul])
    (fun p (z : Slot × Slot) => [.val M.d, .val (nI M.am.n), .val (.tuple ((M.am.rds M.am.n).map dI)), .val (dI p.flatten), lvL dI p, z.1, z.2, .nul]) (.nul, .nul) rfl (fun p a ha hp hpm z => by
      have hlen : p.flatten.length + a.length ≤ 1000000 := by
        have h1 : ∀ c ∈ M.am.rds M.am.n, c.length ≤ 64 := fun c hc => by
          obtain ⟨m, hm, _, rfl⟩ := Am.mem_rds.mp hc
          rw [Am.cyc_len hA hm]
          have := (Am.tl_lt hA hm).2.2
          omega
        have h2 := Am.sum_map_le List.length 64 p fun c hc => h1 c (hpm c hc)
        have h3 := h1 a ha
        rw [List.length_flatten]
        have : p.length ≤ 64 := by omega
        have : p.length * 64 ≤ 64 * 64 := Nat.mul_le_mul_right _ this
        omega
      obtain ⟨z', e⟩ := one_row hM ha (.val (.tuple ((M.am.rds M.am.n).map dI))) z.1 z.1 z.2 .nul p.flatten hlen
      refine ⟨z', ?_⟩
      rw [lvL_snoc, List.flatten_append, List.flatten_cons, List.flatten_nil, List.append_nil]
      exact e)
  have hfl : (M.am.rds M.am.n).flatten.length ≤ 1000000 := by rw [List.length_flatten]; omega
  have hns : nsort (M.am.rds M.am.n).flatten = (List.range M.am.n).filter fun s => decide (M.am.tl s = 0) := nsort_eq ((filter_inc (range_inc _) _).imp Nat.le_of_lt) (Am.flat_perm hA)
  have hst := sorted_TD (l := M.am.rds M.am.n) ((Am.rds_inc hA).imp fun {a b} ⟨x, y, l, l', e1, e2, h⟩ => by
      subst e1 e2
      exact lexN_gt h) (fun r hr e => by
      obtain ⟨m, hm, hrr, rfl⟩ := Am.mem_rds.mp hr
      obtain ⟨l, e2⟩ := Am.cyc_cons hA hm (Am.isR_iff.mp hrr).1
      rw [e] at e2; cases e2) (by omega)
  have hz' : forS (runF DS 14) (.nm 4) b_law_are_rounds_L2 ((M.am.rds M.am.n).map dI) [.val M.d, .val (nI M.am.n), .val (.tuple ((M.am.rds M.am.n).map dI)), .val (dI []), .nul, .nul, .nul, .nul] = _ := hz
  have hd : decide (M.am.rds M.am.n = M.am.rds M.am.n) = true := decide_eq_true rfl
  simp +contextual (disch := first | omega | with_reducible assumption | (simp only [List.length_cons, List.length_nil, List.length_append, List.length_map, List.length_range, Am.row_len]; omega)) only [b_law_are_rounds, v_c, v_g, v_v, v_bin, v_neg, v_cmp, v_chain, v_and, v_or, v_not, v_ix, v_sl, v_rev, v_tup, v_lst, v_call, v_bi, v_rng, v_srtSet, v_meth, v_isi, v_dnew, v_srtKey, vs_nil, vs_cons, vr_nil, vr_cons, vo_no, vo_so, vc_e, vc_own, vc_1, vc_2, vc_en, vc_zip, v_comp1, v_comp1c, v_comp2, x_pass, x_seq, x_frz, x_set, x_setO, x_unp, x_par, x_par3, x_iff, x_ret, x_retN, x_rai, x_exp, x_cont, x_for, x_whl, x_app, x_ext, x_pop0, x_setIx, own_s, kApp_L, kApp_I, kExt_L, kExt_I, kSet_L, kSet_I, kSet_T, kSet_K, R.bind_ok, R.fl_ok, R.nox_ok, then_kS, fl_kFor, then_rt, then_exc, toR_rt, toR_exc, asB_b, rd_val, rd_own, onx_s, List.getElem?_cons_zero, List.getElem?_cons_succ, List.set_cons_zero, List.set_cons_succ, List.map_cons, List.map_nil, List.cons_append, List.nil_append, List.replicate_succ, List.replicate_zero, Nat.reduceSub, Nat.sub_zero, cond_true, cond_false, cond_b1, cond_b2, Bool.not_true, Bool.not_false, List.length_cons, List.length_nil, Nat.zero_add, Nat.reduceAdd, b_nm, b_tup, bs_nil, bs_cons, b_some, frzE, own_I, own_L, own_T, own_K, n_add, n_mulL, n_mulR, n_sub, n_mod, n_div, n_lt, n_le, n_gt, n_ge, n_eq, n_ne, n_neg, ↓cmpr_map, ↓cmpA_map, ↓cmpA_range, cmpA_ok, cmpA_okc, cmpN_ok, cmpN_okc, cmpA_none, cmpN_none, gd_t, gd_k, r1_n, rng_t, rng_l, psk_ok, ix_t0, ix_t1, ix_t2, ix_t3, ix_t4, ix_m4, ix_m5, ix_dI, ix_lI, len_t, len_l, len_dI, len_lI, src_d, src_l, src_L, src_T, srcO_L, srcO_I, tup_l, tup_lI, tup_t, tup_dI, lst_dI, lst_lI, lst_t, fold_lI, fold_dI, sum_lI, cat_dI, tup1_n, tup0_n, lst0_n, papp_I, papp_L, fold_snoc, fold_set, pext_L, psetI_I, psetL_I, fold_l, fold_t, fold_l1, pss_l, pss_d, in_lI, in_dI, nin_lI, nin_dI, meOk_i, meOk_L, me_idx, sl_from, sl_to, plo_n, plo_j, isi_ni, isi_nb, isi_nt, isi_dt, isi_tt, isi_ss, all_b, any_b, eq_lI, eq_dI, ne_lI, ne_dI, int_b, min_n, max_n, mul_lI, cat_lI, sorted_I, eq_bb, ne_bb, map_dsnoc, sub_01, max_0j, ne_LD, ne_DD, hro, hz', htl, hst, sorted_D, hns, eq_LDs, leq_self, hd, hfl, decide_true, decide_false, decide_eq_true, decide_eq_false, Bool.and_true, Bool.true_and, Bool.and_false, Bool.false_and, Bool.or_true, Bool.true_or, Bool.or_false, Bool.false_or, Bool.not_true, Bool.not_false]
section
variable (ns : List Int) {s : Nat} (hs : s < M.am.n)
include hs
theorem rest14 (one other : Nat) (ho : other < 1000) (x7 x8 x11 : Slot) : ex (runF DS 15) b_law_14 [.val (scriptD ns), .val M.d, .val (nI M.am.n), .val (nI s), .val (nI (M.am.tl s)), .val (nI (M.am.rd s)), .val (nI (M.am.go s (M.am.tl s))), x7, x8, .val (nI one), .val (nI other), x11, .nul, .nul, .nul, .nul] = .rt (.bool true) := by
  have hA := Mk.am_ok hM
  have h64 := hA.le
  have hgs : ∀ m, M.am.go s m < M.am.n := Am.go_lt hA hs
  have hbh : ∀ {x m : Nat}, x < M.am.n → m < 2 ^ 64 → runF DS 15 "behind" [M.d, nI x, nI m] = .ok (nI (M.am.go x m)) := fun hx hm => r_behind 11 hM hx hm
  have har := r_are hM
  have hst : ∀ x, x < M.am.n → runF DS 15 "step" [M.d, nI x] = .ok (nI (M.am.f x)) := fun x hx => r_step 12 hM hx
  have hlo : runF DS 15 "lost" [M.d] = .ok (dI M.am.los) := r_lost 11 hM
  have hTab := Am.tab_ok hA
  have eT : M.am.tab.am = M.am := Mk.tab_am M
  have hat : runF DS 15 "as_table" [M.d] = .ok M.am.tab.d := r_as_table 11 hM
  have hdr : ∀ x k, x < M.am.n → k < 1000000 → runF DS 15 "drawn" [M.d, nI x, nI k] = .ok (dI (M.am.row x k)) := fun x k hx hk => r_drawn 11 hM hx hk
  have hdt : ∀ k, k < 1000000 → runF DS 15 "drawn" [M.am.tab.d, nI s, nI k] = .ok (dI (M.am.row s k)) := fun k hk => by
    have := r_drawn (DS := DS) 11 hTab (s := s) (by rw [eT]; exact hs) (k := k) hk
    rw [eT] at this
    exact this
  have h60 : other % 60 < 60 := Nat.mod_lt _ (by decide)
  have b1 := hbh hs (m := other % 60) (by omega)
  have d1 := hdr s (other % 60) hs (by omega)
  have d2 := hdr s (other % 60 + 9) hs (by omega)
  have d3 := hdr (M.am.go s (other % 60)) 9 (hgs _) (by omega)
  have d4 := hdt (other % 60) (by omega)
  have hra := M.am.row_add (other % 60) 9 s
  have hrl := M.am.row_len (other % 60) s
  have hfl : ((List.range M.am.n).filter fun x => !decide (x ∈ (List.range M.am.n).map M.am.f)) = M.am.los := rfl
  have hal : leq M.am.los M.am.los = true := leq_self _
  simp +contextual (disch := first | omega | with_reducible assumption | (simp only [List.length_cons, List.length_nil, List.length_append, List.length_map, List.length_range, Am.row_len]; omega)) only [b_law_14, v_c, v_g, v_v, v_bin, v_neg, v_cmp, v_chain, v_and, v_or, v_not, v_ix, v_sl, v_rev, v_tup, v_lst, v_call, v_bi, v_rng, v_srtSet, v_meth, v_isi, v_dnew, v_srtKey, vs_nil, vs_cons, vr_nil, vr_cons, vo_no, vo_so, vc_e, vc_own, vc_1, vc_2, vc_en, vc_zip, v_comp1, v_comp1c, v_comp2, x_pass, x_seq, x_frz, x_set, x_setO, x_unp, x_par, x_par3, x_iff, x_ret, x_retN, x_rai, x_exp, x_cont, x_for, x_whl, x_app, x_ext, x_pop0, x_setIx, own_s, kApp_L, kApp_I, kExt_L, kExt_I, kSet_L, kSet_I, kSet_T, kSet_K, R.bind_ok, R.fl_ok, R.nox_ok, then_kS, fl_kFor, then_rt, then_exc, toR_rt, toR_exc, asB_b, rd_val, rd_own, onx_s, List.getElem?_cons_zero, List.getElem?_cons_succ, List.set_cons_zero, List.set_cons_succ, List.map_cons, List.map_nil, List.cons_append, List.nil_append, List.replicate_succ, List.replicate_zero, Nat.reduceSub, Nat.sub_zero, cond_true, cond_false, cond_b1, cond_b2, Bool.not_true, Bool.not_false, List.length_cons, List.length_nil, Nat.zero_add, Nat.reduceAdd, b_nm, b_tup, bs_nil, bs_cons, b_some, frzE, own_I, own_L, own_T, own_K, n_add, n_mulL, n_mulR, n_sub, n_mod, n_div, n_lt, n_le, n_gt, n_ge, n_eq, n_ne, n_neg, ↓cmpr_map, ↓cmpA_map, ↓cmpA_range, cmpA_ok, cmpA_okc, cmpN_ok, cmpN_okc, cmpA_none, cmpN_none, gd_t, gd_k, r1_n, rng_t, rng_l, psk_ok, ix_t0, ix_t1, ix_t2, ix_t3, ix_t4, ix_m4, ix_m5, ix_dI, ix_lI, len_t, len_l, len_dI, len_lI, src_d, src_l, src_L, src_T, srcO_L, srcO_I, tup_l, tup_lI, tup_t, tup_dI, lst_dI, lst_lI, lst_t, fold_lI, fold_dI, sum_lI, cat_dI, tup1_n, tup0_n, lst0_n, papp_I, papp_L, fold_snoc, fold_set, pext_L, psetI_I, psetL_I, fold_l, fold_t, fold_l1, pss_l, pss_d, in_lI, in_dI, nin_lI, nin_dI, meOk_i, meOk_L, me_idx, sl_from, sl_to, plo_n, plo_j, isi_ni, isi_nb, isi_nt, isi_dt, isi_tt, isi_ss, all_b, any_b, eq_lI, eq_dI, ne_lI, ne_dI, int_b, min_n, max_n, mul_lI, cat_lI, sorted_I, eq_bb, ne_bb, map_dsnoc, sub_01, max_0j, ne_LD, ne_DD, har, hst, hlo, hat, b1, d1, d2, d3, d4, hfl, leq_self, hrl, hra, decide_true, decide_false, decide_eq_true, decide_eq_false, Bool.and_true, Bool.true_and, Bool.and_false, Bool.false_and, Bool.or_true, Bool.true_or, Bool.or_false, Bool.false_or, Bool.not_true, Bool.not_false]
theorem rest10 (x7 x8 : Slot) : ex (runF DS 15) b_law_10 [.val (scriptD ns), .val M.d, .val (nI M.am.n), .val (nI s), .val (nI (M.am.tl s)), .val (nI (M.am.rd s)), .val (nI (M.am.go s (M.am.tl s))), x7, x8, .nul, .nul, .nul, .nul, .nul, .nul, .nul] = .rt (.bool true) := by
  have hA := Mk.am_ok hM
  obtain ⟨t1, t2, t3⟩ := Am.tl_lt hA hs
  have h64 := hA.le
  have hgs : ∀ m, M.am.go s m < M.am.n := Am.go_lt hA hs
  have hbh : ∀ {x m : Nat}, x < M.am.n → m < 2 ^ 64 → runF DS 15 "behind" [M.d, nI x, nI m] = .ok (nI (M.am.go x m)) := fun hx hm => r_behind 11 hM hx hm
  have z2 := mixN_lt ns 2
  have z3 := mixN_lt ns 3
  generalize hz2 : mixN ns 2 = u at *
  generalize hz3 : mixN ns 3 = v at *
  have hv : v % 1000 < 1000 := Nat.mod_lt _ (by decide)
  have hu : u % 1000000000000 < 1000000000000 := Nat.mod_lt _ (by decide)
  generalize hou : u % 1000000000000 = one at *
  generalize hov : v % 1000 = other at *
  have e1 := hbh hs (m := one) (by omega)
  have e2 := hbh (hgs one) (m := other) (by omega)
  have e3 := hbh hs (m := one + other) (by omega)
  rw [M.am.go_add] at e3
  have e4 := hbh (hgs (M.am.tl s)) (m := (one - M.am.tl s) % M.am.rd s) (by have := Nat.mod_lt (one - M.am.tl s) t2; omega)
  have r14 := rest14 hM ns hs one other hv x7 x8
  by_cases q : M.am.tl s ≤ one
  · rw [← Am.far hA hs q] at e4
    simp +contextual (disch := first | omega | with_reducible assumption | (simp only [List.length_cons, List.length_nil, List.length_append, List.length_map, List.length_range, Am.row_len]; omega)) only [b_law_10, v_c, v_g, v_v, v_bin, v_neg, v_cmp, v_chain, v_and, v_or, v_not, v_ix, v_sl, v_rev, v_tup, v_lst, v_call, v_bi, v_rng, v_srtSet, v_meth, v_isi, v_dnew, v_srtKey, vs_nil, vs_cons, vr_nil, vr_cons, vo_no, vo_so, vc_e, vc_own, vc_1, vc_2, vc_en, vc_zip, v_comp1, v_comp1c, v_comp2, x_pass, x_seq, x_frz, x_set, x_setO, x_unp, x_par, x_par3, x_iff, x_ret, x_retN, x_rai, x_exp, x_cont, x_for, x_whl, x_app, x_ext, x_pop0, x_setIx, own_s, kApp_L, kApp_I, kExt_L, kExt_I, kSet_L, kSet_I, kSet_T, kSet_K, R.bind_ok, R.fl_ok, R.nox_ok, then_kS, fl_kFor, then_rt, then_exc, toR_rt, toR_exc, asB_b, rd_val, rd_own, onx_s, List.getElem?_cons_zero, List.getElem?_cons_succ, List.set_cons_zero, List.set_cons_succ, List.map_cons, List.map_nil, List.cons_append, List.nil_append, List.replicate_succ, List.replicate_zero, Nat.reduceSub, Nat.sub_zero, cond_true, cond_false, cond_b1, cond_b2, Bool.not_true, Bool.not_false, List.length_cons, List.length_nil, Nat.zero_add, Nat.reduceAdd, b_nm, b_tup, bs_nil, bs_cons, b_some, frzE, own_I, own_L, own_T, own_K, n_add, n_mulL, n_mulR, n_sub, n_mod, n_div, n_lt, n_le, n_gt, n_ge, n_eq, n_ne, n_neg, ↓cmpr_map, ↓cmpA_map, ↓cmpA_range, cmpA_ok, cmpA_okc, cmpN_ok, cmpN_okc, cmpA_none, cmpN_none, gd_t, gd_k, r1_n, rng_t, rng_l, psk_ok, ix_t0, ix_t1, ix_t2, ix_t3, ix_t4, ix_m4, ix_m5, ix_dI, ix_lI, len_t, len_l, len_dI, len_lI, src_d, src_l, src_L, src_T, srcO_L, srcO_I, tup_l, tup_lI, tup_t, tup_dI, lst_dI, lst_lI, lst_t, fold_lI, fold_dI, sum_lI, cat_dI, tup1_n, tup0_n, lst0_n, papp_I, papp_L, fold_snoc, fold_set, pext_L, psetI_I, psetL_I, fold_l, fold_t, fold_l1, pss_l, pss_d, in_lI, in_dI, nin_lI, nin_dI, meOk_i, meOk_L, me_idx, sl_from, sl_to, plo_n, plo_j, isi_ni, isi_nb, isi_nt, isi_dt, isi_tt, isi_ss, all_b, any_b, eq_lI, eq_dI, ne_lI, ne_dI, int_b, min_n, max_n, mul_lI, cat_lI, sorted_I, eq_bb, ne_bb, map_dsnoc, sub_01, max_0j, ne_LD, ne_DD, r_mixed, hz2, hz3, hou, hov, e1, e2, e3, e4, decide_eq_true q, decide_true, decide_false, decide_eq_true, decide_eq_false, Bool.and_true, Bool.true_and, Bool.and_false, Bool.false_and, Bool.or_true, Bool.true_or, Bool.or_false, Bool.false_or, Bool.not_true, Bool.not_false, r14]
  · simp +contextual (disch := first | omega | with_reducible assumption | (simp only [List.length_cons, List.length_nil, List.length_append, List.length_map, List.length_range, Am.row_len]; omega)) only [b_law_10, v_c, v_g, v_v, v_bin, v_neg, v_cmp, v_chain, v_and, v_or, v_not, v_ix, v_sl, v_rev, v_tup, v_lst, v_call, v_bi, v_rng, v_srtSet, v_meth, v_isi, v_dnew, v_srtKey, vs_nil, vs_cons, vr_nil, vr_cons, vo_no, vo_so, vc_e, vc_own, vc_1, vc_2, vc_en, vc_zip, v_comp1, v_comp1c, v_comp2, x_pass, x_seq, x_frz, x_set, x_setO, x_unp, x_par, x_par3, x_iff, x_ret, x_retN, x_rai, x_exp, x_cont, x_for, x_whl, x_app, x_ext, x_pop0, x_setIx, own_s, kApp_L, kApp_I, kExt_L, kExt_I, kSet_L, kSet_I, kSet_T, kSet_K, R.bind_ok, R.fl_ok, R.nox_ok, then_kS, fl_kFor, then_rt, then_exc, toR_rt, toR_exc, asB_b, rd_val, rd_own, onx_s, List.getElem?_cons_zero, List.getElem?_cons_succ, List.set_cons_zero, List.set_cons_succ, List.map_cons, List.map_nil, List.cons_append, List.nil_append, List.replicate_succ, List.replicate_zero, Nat.reduceSub, Nat.sub_zero, cond_true, cond_false, cond_b1, cond_b2, Bool.not_true, Bool.not_false, List.length_cons, List.length_nil, Nat.zero_add, Nat.reduceAdd, b_nm, b_tup, bs_nil, bs_cons, b_some, frzE, own_I, own_L, own_T, own_K, n_add, n_mulL, n_mulR, n_sub, n_mod, n_div, n_lt, n_le, n_gt, n_ge, n_eq, n_ne, n_neg, ↓cmpr_map, ↓cmpA_map, ↓cmpA_range, cmpA_ok, cmpA_okc, cmpN_ok, cmpN_okc, cmpA_none, cmpN_none, gd_t, gd_k, r1_n, rng_t, rng_l, psk_ok, ix_t0, ix_t1, ix_t2, ix_t3, ix_t4, ix_m4, ix_m5, ix_dI, ix_lI, len_t, len_l, len_dI, len_lI, src_d, src_l, src_L, src_T, srcO_L, srcO_I, tup_l, tup_lI, tup_t, tup_dI, lst_dI, lst_lI, lst_t, fold_lI, fold_dI, sum_lI, cat_dI, tup1_n, tup0_n, lst0_n, papp_I, papp_L, fold_snoc, fold_set, pext_L, psetI_I, psetL_I, fold_l, fold_t, fold_l1, pss_l, pss_d, in_lI, in_dI, nin_lI, nin_dI, meOk_i, meOk_L, me_idx, sl_from, sl_to, plo_n, plo_j, isi_ni, isi_nb, isi_nt, isi_dt, isi_tt, isi_ss, all_b, any_b, eq_lI, eq_dI, ne_lI, ne_dI, int_b, min_n, max_n, mul_lI, cat_lI, sorted_I, eq_bb, ne_bb, map_dsnoc, sub_01, max_0j, ne_LD, ne_DD, r_mixed, hz2, hz3, hou, hov, e1, e2, e3, e4, decide_eq_false q, decide_true, decide_false, decide_eq_true, decide_eq_false, Bool.and_true, Bool.true_and, Bool.and_false, Bool.false_and, Bool.or_true, Bool.true_or, Bool.or_false, Bool.false_or, Bool.not_true, Bool.not_false, r14]
theorem rest9 (x7 : Slot) : ex (runF DS 15) b_law_9 [.val (scriptD ns), .val M.d, .val (nI M.am.n), .val (nI s), .val (nI (M.am.tl s)), .val (nI (M.am.rd s)), .val (nI (M.am.go s (M.am.tl s))), x7, .nul, .nul, .nul, .nul, .nul, .nul, .nul, .nul] = .rt (.bool true) := by
  have hA := Mk.am_ok hM
  obtain ⟨t1, t2, t3⟩ := Am.tl_lt hA hs
  have h64 := hA.le
  have hgs : ∀ m, M.am.go s m < M.am.n := Am.go_lt hA hs
  have hbh : ∀ {x m : Nat}, x < M.am.n → m < 2 ^ 64 → runF DS 15 "behind" [M.d, nI x, nI m] = .ok (nI (M.am.go x m)) := fun hx hm => r_behind 11 hM hx hm
  have htl : ∀ x, x < M.am.n → runF DS 15 "tail" [M.d, nI x] = .ok (nI (M.am.tl x)) := fun x hx => r_tail 10 hM hx
  have r10 := rest10 hM ns hs x7
  by_cases q : 0 < M.am.tl s
  · have e1 := hbh hs (m := M.am.tl s - 1) (by omega)
    have e2 := htl _ (hgs (M.am.tl s - 1))
    have e3 := hbh (hgs (M.am.tl s - 1)) (m := M.am.rd s) (by omega)
    have h1 : M.am.tl (M.am.go s (M.am.tl s - 1)) = 1 := by rw [Am.tl_go hA hs]; omega
    have h2 : decide (M.am.go (M.am.go s (M.am.tl s - 1)) (M.am.rd s) = M.am.go s (M.am.tl s - 1)) = false := decide_eq_false (Am.ahead_no hA hs q)
    have hsub : pbin .sub (nI (M.am.tl s)) (nI 1) = .ok (nI (M.am.tl s - 1)) := n_sub _ _ q
    rw [h1] at e2
    simp +contextual (disch := first | omega | with_reducible assumption | (simp only [List.length_cons, List.length_nil, List.length_append, List.length_map, List.length_range, Am.row_len]; omega)) only [b_law_9, v_c, v_g, v_v, v_bin, v_neg, v_cmp, v_chain, v_and, v_or, v_not, v_ix, v_sl, v_rev, v_tup, v_lst, v_call, v_bi, v_rng, v_srtSet, v_meth, v_isi, v_dnew, v_srtKey, vs_nil, vs_cons, vr_nil, vr_cons, vo_no, vo_so, vc_e, vc_own, vc_1, vc_2, vc_en, vc_zip, v_comp1, v_comp1c, v_comp2, x_pass, x_seq, x_frz, x_set, x_setO, x_unp, x_par, x_par3, x_iff, x_ret, x_retN, x_rai, x_exp, x_cont, x_for, x_whl, x_app, x_ext, x_pop0, x_setIx, own_s, kApp_L, kApp_I, kExt_L, kExt_I, kSet_L, kSet_I, kSet_T, kSet_K, R.bind_ok, R.fl_ok, R.nox_ok, then_kS, fl_kFor, then_rt, then_exc, toR_rt, toR_exc, asB_b, rd_val, rd_own, onx_s, List.getElem?_cons_zero, List.getElem?_cons_succ, List.set_cons_zero, List.set_cons_succ, List.map_cons, List.map_nil, List.cons_append, List.nil_append, List.replicate_succ, List.replicate_zero, Nat.reduceSub, Nat.sub_zero, cond_true, cond_false, cond_b1, cond_b2, Bool.not_true, Bool.not_false, List.length_cons, List.length_nil, Nat.zero_add, Nat.reduceAdd, b_nm, b_tup, bs_nil, bs_cons, b_some, frzE, own_I, own_L, own_T, own_K, n_add, n_mulL, n_mulR, n_sub, n_mod, n_div, n_lt, n_le, n_gt, n_ge, n_eq, n_ne, n_neg, ↓cmpr_map, ↓cmpA_map, ↓cmpA_range, cmpA_ok, cmpA_okc, cmpN_ok, cmpN_okc, cmpA_none, cmpN_none, gd_t, gd_k, r1_n, rng_t, rng_l, psk_ok, ix_t0, ix_t1, ix_t2, ix_t3, ix_t4, ix_m4, ix_m5, ix_dI, ix_lI, len_t, len_l, len_dI, len_lI, src_d, src_l, src_L, src_T, srcO_L, srcO_I, tup_l, tup_lI, tup_t, tup_dI, lst_dI, lst_lI, lst_t, fold_lI, fold_dI, sum_lI, cat_dI, tup1_n, tup0_n, lst0_n, papp_I, papp_L, fold_snoc, fold_set, pext_L, psetI_I, psetL_I, fold_l, fold_t, fold_l1, pss_l, pss_d, in_lI, in_dI, nin_lI, nin_dI, meOk_i, meOk_L, me_idx, sl_from, sl_to, plo_n, plo_j, isi_ni, isi_nb, isi_nt, isi_dt, isi_tt, isi_ss, all_b, any_b, eq_lI, eq_dI, ne_lI, ne_dI, int_b, min_n, max_n, mul_lI, cat_lI, sorted_I, eq_bb, ne_bb, map_dsnoc, sub_01, max_0j, ne_LD, ne_DD, e1, e2, e3, h2, hsub, decide_eq_true q, decide_true, decide_false, decide_eq_true, decide_eq_false, Bool.and_true, Bool.true_and, Bool.and_false, Bool.false_and, Bool.or_true, Bool.true_or, Bool.or_false, Bool.false_or, Bool.not_true, Bool.not_false, r10]
  · simp +contextual (disch := first | omega | with_reducible assumption | (simp only [List.length_cons, List.length_nil, List.length_append, List.length_map, List.length_range, Am.row_len]; omega)) only [b_law_9, v_c, v_g, v_v, v_bin, v_neg, v_cmp, v_chain, v_and, v_or, v_not, v_ix, v_sl, v_rev, v_tup, v_lst, v_call, v_bi, v_rng, v_srtSet, v_meth, v_isi, v_dnew, v_srtKey, vs_nil, vs_cons, vr_nil, vr_cons, vo_no, vo_so, vc_e, vc_own, vc_1, vc_2, vc_en, vc_zip, v_comp1, v_comp1c, v_comp2, x_pass, x_seq, x_frz, x_set, x_setO, x_unp, x_par, x_par3, x_iff, x_ret, x_retN, x_rai, x_exp, x_cont, x_for, x_whl, x_app, x_ext, x_pop0, x_setIx, own_s, kApp_L, kApp_I, kExt_L, kExt_I, kSet_L, kSet_I, kSet_T, kSet_K, R.bind_ok, R.fl_ok, R.nox_ok, then_kS, fl_kFor, then_rt, then_exc, toR_rt, toR_exc, asB_b, rd_val, rd_own, onx_s, List.getElem?_cons_zero, List.getElem?_cons_succ, List.set_cons_zero, List.set_cons_succ, List.map_cons, List.map_nil, List.cons_append, List.nil_append, List.replicate_succ, List.replicate_zero, Nat.reduceSub, Nat.sub_zero, cond_true, cond_false, cond_b1, cond_b2, Bool.not_true, Bool.not_false, List.length_cons, List.length_nil, Nat.zero_add, Nat.reduceAdd, b_nm, b_tup, bs_nil, bs_cons, b_some, frzE, own_I, own_L, own_T, own_K, n_add, n_mulL, n_mulR, n_sub, n_mod, n_div, n_lt, n_le, n_gt, n_ge, n_eq, n_ne, n_neg, ↓cmpr_map, ↓cmpA_map, ↓cmpA_range, cmpA_ok, cmpA_okc, cmpN_ok, cmpN_okc, cmpA_none, cmpN_none, gd_t, gd_k, r1_n, rng_t, rng_l, psk_ok, ix_t0, ix_t1, ix_t2, ix_t3, ix_t4, ix_m4, ix_m5, ix_dI, ix_lI, len_t, len_l, len_dI, len_lI, src_d, src_l, src_L, src_T, srcO_L, srcO_I, tup_l, tup_lI, tup_t, tup_dI, lst_dI, lst_lI, lst_t, fold_lI, fold_dI, sum_lI, cat_dI, tup1_n, tup0_n, lst0_n, papp_I, papp_L, fold_snoc, fold_set, pext_L, psetI_I, psetL_I, fold_l, fold_t, fold_l1, pss_l, pss_d, in_lI, in_dI, nin_lI, nin_dI, meOk_i, meOk_L, me_idx, sl_from, sl_to, plo_n, plo_j, isi_ni, isi_nb, isi_nt, isi_dt, isi_tt, isi_ss, all_b, any_b, eq_lI, eq_dI, ne_lI, ne_dI, int_b, min_n, max_n, mul_lI, cat_lI, sorted_I, eq_bb, ne_bb, map_dsnoc, sub_01, max_0j, ne_LD, ne_DD, decide_eq_false q, decide_true, decide_false, decide_eq_true, decide_eq_false, Bool.and_true, Bool.true_and, Bool.and_false, Bool.false_and, Bool.or_true, Bool.true_or, Bool.or_false, Bool.false_or, Bool.not_true, Bool.not_false, r10]
end
theorem rest (ns : List Int) {s : Nat} (hs : s < M.am.n) : ex (runF DS 15) b_law_7 [.val (scriptD ns), .val M.d, .val (nI M.am.n), .val (nI s), .val (nI (M.am.tl s)), .val (nI (M.am.rd s)), .val (nI (M.am.go s (M.am.tl s))), .nul, .nul, .nul, .nul, .nul, .nul, .nul, .nul, .nul] = .rt (.bool true) := by
  have hA := Mk.am_ok hM
  have h64 := hA.le
  obtain ⟨t1, t2, t3⟩ := Am.tl_lt hA hs
  have hgs : ∀ m, M.am.go s m < M.am.n := Am.go_lt hA hs
  have hbh : ∀ {x m : Nat}, x < M.am.n → m < 2 ^ 64 → runF DS 15 "behind" [M.d, nI x, nI m] = .ok (nI (M.am.go x m)) := fun hx hm => r_behind 11 hM hx hm
  have htl : ∀ x, x < M.am.n → runF DS 15 "tail" [M.d, nI x] = .ok (nI (M.am.tl x)) := fun x hx => r_tail 10 hM hx
  have hsrc : psrc2 (nI 1) (nI (M.am.rd s)) = .ok ((List.range (M.am.rd s - 1)).map fun i => nI (1 + i)) := by
    show (if (1 : Int) < (LIM : Nat) ∧ -(LIM : Int) < 1 ∧ ((M.am.rd s : Nat) : Int) < (LIM : Nat) ∧ -(LIM : Int) < ((M.am.rd s : Nat) : Int) then R.ok (rangeL 1 (((M.am.rd s : Nat) : Int) - 1).toNat) else .bad) = _
    rw [if_pos (by rw [LIM_eq]; omega)]
    unfold rangeL
    have e : (((M.am.rd s : Nat) : Int) - 1).toNat = M.am.rd s - 1 := by omega
    rw [e]
    refine congrArg R.ok (List.map_congr_left fun i _ => ?_)
    show PyData.int (1 + (i : Nat)) = PyData.int ((1 + i : Nat))
    congr 1
  have c1 : decide (1 ≤ M.am.rd s) = true := decide_eq_true t2
  have c2 : decide (M.am.rd s ≤ M.am.n) = true := decide_eq_true t3
  have c3 : decide (0 ≤ M.am.tl s) = true := decide_eq_true (Nat.zero_le _)
  have c4 : decide (M.am.tl s < M.am.n) = true := decide_eq_true t1
  obtain ⟨z7, hlp⟩ := forS_keep1 (F := runF DS 15) (b := b_law_L1) (t := 7) (enc := fun i => nI (1 + i)) (l := List.range (M.am.rd s - 1)) (ρ0 := [.val (scriptD ns), .val M.d, .val (nI M.am.n), .val (nI s), .val (nI (M.am.tl s)), .val (nI (M.am.rd s)), .val (nI (M.am.go s (M.am.tl s))), .nul, .nul, .nul, .nul, .nul, .nul, .nul, .nul, .nul])
    (fun (z : Slot) => [.val (scriptD ns), .val M.d, .val (nI M.am.n), .val (nI s), .val (nI (M.am.tl s)), .val (nI (M.am.rd s)), .val (nI (M.am.go s (M.am.tl s))), z, .nul, .nul, .nul, .nul, .nul, .nul, .nul, .nul]) .nul rfl (fun i hi z => by
      have hi' := List.mem_range.mp hi
      have hb := hbh (hgs (M.am.tl s)) (m := 1 + i) (by omega)
      have hne : decide (M.am.go (M.am.go s (M.am.tl s)) (1 + i) = M.am.go s (M.am.tl s)) = false := decide_eq_false (Am.no_sooner hA hs (by omega) (by omega))
      refine ⟨.val (nI (1 + i)), ?_⟩
      simp (disch := first | omega | with_reducible assumption | (simp only [List.length_cons, List.length_nil, List.length_append, List.length_map, List.length_range, Am.row_len]; omega)) only [b_law_L1, v_c, v_g, v_v, v_bin, v_neg, v_cmp, v_chain, v_and, v_or, v_not, v_ix, v_sl, v_rev, v_tup, v_lst, v_call, v_bi, v_rng, v_srtSet, v_meth, v_isi, v_dnew, v_srtKey, vs_nil, vs_cons, vr_nil, vr_cons, vo_no, vo_so, vc_e, vc_own, vc_1, vc_2, vc_en, vc_zip, v_comp1, v_comp1c, v_comp2, x_pass, x_seq, x_frz, x_set, x_setO, x_unp, x_par, x_par3, x_iff, x_ret, x_retN, x_rai, x_exp, x_cont, x_for, x_whl, x_app, x_ext, x_pop0, x_setIx, own_s, kApp_L, kApp_I, kExt_L, kExt_I, kSet_L, kSet_I, kSet_T, kSet_K, R.bind_ok, R.fl_ok, R.nox_ok, then_kS, fl_kFor, then_rt, then_exc, toR_rt, toR_exc, asB_b, rd_val, rd_own, onx_s, List.getElem?_cons_zero, List.getElem?_cons_succ, List.set_cons_zero, List.set_cons_succ, List.map_cons, List.map_nil, List.cons_append, List.nil_append, List.replicate_succ, List.replicate_zero, Nat.reduceSub, Nat.sub_zero, cond_true, cond_false, cond_b1, cond_b2, Bool.not_true, Bool.not_false, List.length_cons, List.length_nil, Nat.zero_add, Nat.reduceAdd, b_nm, b_tup, bs_nil, bs_cons, b_some, frzE, own_I, own_L, own_T, own_K, n_add, n_mulL, n_mulR, n_sub, n_mod, n_div, n_lt, n_le, n_gt, n_ge, n_eq, n_ne, n_neg, ↓cmpr_map, ↓cmpA_map, ↓cmpA_range, cmpA_ok, cmpA_okc, cmpN_ok, cmpN_okc, cmpA_none, cmpN_none, gd_t, gd_k, r1_n, rng_t, rng_l, psk_ok, ix_t0, ix_t1, ix_t2, ix_t3, ix_t4, ix_m4, ix_m5, ix_dI, ix_lI, len_t, len_l, len_dI, len_lI, src_d, src_l, src_L, src_T, srcO_L, srcO_I, tup_l, tup_lI, tup_t, tup_dI, lst_dI, lst_lI, lst_t, fold_lI, fold_dI, sum_lI, cat_dI, tup1_n, tup0_n, lst0_n, papp_I, papp_L, fold_snoc, fold_set, pext_L, psetI_I, psetL_I, fold_l, fold_t, fold_l1, pss_l, pss_d, in_lI, in_dI, nin_lI, nin_dI, meOk_i, meOk_L, me_idx, sl_from, sl_to, plo_n, plo_j, isi_ni, isi_nb, isi_nt, isi_dt, isi_tt, isi_ss, all_b, any_b, eq_lI, eq_dI, ne_lI, ne_dI, int_b, min_n, max_n, mul_lI, cat_lI, sorted_I, eq_bb, ne_bb, map_dsnoc, sub_01, max_0j, ne_LD, ne_DD, hb, hne, decide_true, decide_false, decide_eq_true, decide_eq_false, Bool.and_true, Bool.true_and, Bool.and_false, Bool.false_and, Bool.or_true, Bool.true_or, Bool.or_false, Bool.false_or, Bool.not_true, Bool.not_false])
  simp +contextual (disch := first | omega | with_reducible assumption | (simp only [List.length_cons, List.length_nil, List.length_append, List.length_map, List.length_range, Am.row_len]; omega)) only [b_law_7, v_c, v_g, v_v, v_bin, v_neg, v_cmp, v_chain, v_and, v_or, v_not, v_ix, v_sl, v_rev, v_tup, v_lst, v_call, v_bi, v_rng, v_srtSet, v_meth, v_isi, v_dnew, v_srtKey, vs_nil, vs_cons, vr_nil, vr_cons, vo_no, vo_so, vc_e, vc_own, vc_1, vc_2, vc_en, vc_zip, v_comp1, v_comp1c, v_comp2, x_pass, x_seq, x_frz, x_set, x_setO, x_unp, x_par, x_par3, x_iff, x_ret, x_retN, x_rai, x_exp, x_cont, x_for, x_whl, x_app, x_ext, x_pop0, x_setIx, own_s, kApp_L, kApp_I, kExt_L, kExt_I, kSet_L, kSet_I, kSet_T, kSet_K, R.bind_ok, R.fl_ok, R.nox_ok, then_kS, fl_kFor, then_rt, then_exc, toR_rt, toR_exc, asB_b, rd_val, rd_own, onx_s, List.getElem?_cons_zero, List.getElem?_cons_succ, List.set_cons_zero, List.set_cons_succ, List.map_cons, List.map_nil, List.cons_append, List.nil_append, List.replicate_succ, List.replicate_zero, Nat.reduceSub, Nat.sub_zero, cond_true, cond_false, cond_b1, cond_b2, Bool.not_true, Bool.not_false, List.length_cons, List.length_nil, Nat.zero_add, Nat.reduceAdd, b_nm, b_tup, bs_nil, bs_cons, b_some, frzE, own_I, own_L, own_T, own_K, n_add, n_mulL, n_mulR, n_sub, n_mod, n_div, n_lt, n_le, n_gt, n_ge, n_eq, n_ne, n_neg, ↓cmpr_map, ↓cmpA_map, ↓cmpA_range, cmpA_ok, cmpA_okc, cmpN_ok, cmpN_okc, cmpA_none, cmpN_none, gd_t, gd_k, r1_n, rng_t, rng_l, psk_ok, ix_t0, ix_t1, ix_t2, ix_t3, ix_t4, ix_m4, ix_m5, ix_dI, ix_lI, len_t, len_l, len_dI, len_lI, src_d, src_l, src_L, src_T, srcO_L, srcO_I, tup_l, tup_lI, tup_t, tup_dI, lst_dI, lst_lI, lst_t, fold_lI, fold_dI, sum_lI, cat_dI, tup1_n, tup0_n, lst0_n, papp_I, papp_L, fold_snoc, fold_set, pext_L, psetI_I, psetL_I, fold_l, fold_t, fold_l1, pss_l, pss_d, in_lI, in_dI, nin_lI, nin_dI, meOk_i, meOk_L, me_idx, sl_from, sl_to, plo_n, plo_j, isi_ni, isi_nb, isi_nt, isi_dt, isi_tt, isi_ss, all_b, any_b, eq_lI, eq_dI, ne_lI, ne_dI, int_b, min_n, max_n, mul_lI, cat_lI, sorted_I, eq_bb, ne_bb, map_dsnoc, sub_01, max_0j, ne_LD, ne_DD, hsrc, c1, c2, c3, c4, hlp, decide_true, decide_false, decide_eq_true, decide_eq_false, Bool.and_true, Bool.true_and, Bool.and_false, Bool.false_and, Bool.or_true, Bool.true_or, Bool.or_false, Bool.false_or, Bool.not_true, Bool.not_false, rest9 hM ns hs z7]
end
theorem hlaw (ns : List Int) : runF DS 16 "law" [scriptD ns] = .ok (.bool true) := by
  have hM := mkM_ok (mixN ns 0) (most := 64) (by decide) (by decide)
  rw [run_has 15 _ rfl]
  generalize hMe : mkM (mixN ns 0) 64 = M at hM
  have hA := Mk.am_ok hM
  have hp := hA.pos
  have h64 := hA.le
  have hs : mixN ns 1 % M.am.n < M.am.n := Nat.mod_lt _ hp
  generalize hse : mixN ns 1 % M.am.n = s at hs
  obtain ⟨t1, t2, t3⟩ := Am.tl_lt hA hs
  have hgs : ∀ m, M.am.go s m < M.am.n := Am.go_lt hA hs
  have hst : runF DS 15 "stands" [M.d] = .ok (nI M.am.n) := r_stands 13 hM
  have htl : ∀ x, x < M.am.n → runF DS 15 "tail" [M.d, nI x] = .ok (nI (M.am.tl x)) := fun x hx => r_tail 10 hM hx
  have hrf : runF DS 15 "round_of" [M.d, nI s] = .ok (nI (M.am.rd s)) := r_rof 9 hM hs
  have hbh : ∀ {x m : Nat}, x < M.am.n → m < 2 ^ 64 → runF DS 15 "behind" [M.d, nI x, nI m] = .ok (nI (M.am.go x m)) := fun hx hm => r_behind 11 hM hx hm
  obtain ⟨u1, u2, u3⟩ := Am.end_tl hA hs
  have e1 := hbh hs (m := M.am.tl s) (by omega)
  have e2 := hbh (hgs (M.am.tl s)) (m := M.am.rd s) (by omega)
  rw [u3] at e2
  have e3 := htl _ (hgs (M.am.tl s))
  rw [u1] at e3
  have e4 := htl s hs
  simp +contextual (disch := first | omega | with_reducible assumption | (simp only [List.length_cons, List.length_nil, List.length_append, List.length_map, List.length_range, Am.row_len]; omega)) only [b_law, v_c, v_g, v_v, v_bin, v_neg, v_cmp, v_chain, v_and, v_or, v_not, v_ix, v_sl, v_rev, v_tup, v_lst, v_call, v_bi, v_rng, v_srtSet, v_meth, v_isi, v_dnew, v_srtKey, vs_nil, vs_cons, vr_nil, vr_cons, vo_no, vo_so, vc_e, vc_own, vc_1, vc_2, vc_en, vc_zip, v_comp1, v_comp1c, v_comp2, x_pass, x_seq, x_frz, x_set, x_setO, x_unp, x_par, x_par3, x_iff, x_ret, x_retN, x_rai, x_exp, x_cont, x_for, x_whl, x_app, x_ext, x_pop0, x_setIx, own_s, kApp_L, kApp_I, kExt_L, kExt_I, kSet_L, kSet_I, kSet_T, kSet_K, R.bind_ok, R.fl_ok, R.nox_ok, then_kS, fl_kFor, then_rt, then_exc, toR_rt, toR_exc, asB_b, rd_val, rd_own, onx_s, List.getElem?_cons_zero, List.getElem?_cons_succ, List.set_cons_zero, List.set_cons_succ, List.map_cons, List.map_nil, List.cons_append, List.nil_append, List.replicate_succ, List.replicate_zero, Nat.reduceSub, Nat.sub_zero, cond_true, cond_false, cond_b1, cond_b2, Bool.not_true, Bool.not_false, List.length_cons, List.length_nil, Nat.zero_add, Nat.reduceAdd, b_nm, b_tup, bs_nil, bs_cons, b_some, frzE, own_I, own_L, own_T, own_K, n_add, n_mulL, n_mulR, n_sub, n_mod, n_div, n_lt, n_le, n_gt, n_ge, n_eq, n_ne, n_neg, ↓cmpr_map, ↓cmpA_map, ↓cmpA_range, cmpA_ok, cmpA_okc, cmpN_ok, cmpN_okc, cmpA_none, cmpN_none, gd_t, gd_k, r1_n, rng_t, rng_l, psk_ok, ix_t0, ix_t1, ix_t2, ix_t3, ix_t4, ix_m4, ix_m5, ix_dI, ix_lI, len_t, len_l, len_dI, len_lI, src_d, src_l, src_L, src_T, srcO_L, srcO_I, tup_l, tup_lI, tup_t, tup_dI, lst_dI, lst_lI, lst_t, fold_lI, fold_dI, sum_lI, cat_dI, tup1_n, tup0_n, lst0_n, papp_I, papp_L, fold_snoc, fold_set, pext_L, psetI_I, psetL_I, fold_l, fold_t, fold_l1, pss_l, pss_d, in_lI, in_dI, nin_lI, nin_dI, meOk_i, meOk_L, me_idx, sl_from, sl_to, plo_n, plo_j, isi_ni, isi_nb, isi_nt, isi_dt, isi_tt, isi_ss, all_b, any_b, eq_lI, eq_dI, ne_lI, ne_dI, int_b, min_n, max_n, mul_lI, cat_lI, sorted_I, eq_bb, ne_bb, map_dsnoc, sub_01, max_0j, ne_LD, ne_DD, r_mixed, r_maker, hMe, hst, hse, e4, hrf, e1, e2, e3, decide_true, decide_false, decide_eq_true, decide_eq_false, Bool.and_true, Bool.true_and, Bool.and_false, Bool.false_and, Bool.or_true, Bool.true_or, Bool.or_false, Bool.false_or, Bool.not_true, Bool.not_false, rest hM ns hs]
end Lk11
end

namespace Lk11
open PySem Iv
def topS (i : Nat) : Stmt := PySem.Challenge.pw_drawmakers_k11_whole_rounds.main.body.getD i (.Pass ⟨0, 0, 0, 0⟩)
def rows : List (Def × Stmt) := [(d_power, topS 1), (d_stands, topS 6), (d_step, topS 7), (d_faces_many, topS 8), (d_face, topS 9), (d_as_table, topS 10), (d_drawn, topS 11), (d_behind, topS 12), (d_walk, topS 14), (d_tail, topS 15), (d_round_from, topS 16), (d_round_of, topS 17), (d_rounds, topS 18), (d_lost, topS 19), (d_law_cell_at, topS 21), (d_law_mixed, topS 22), (d_law_drawn, topS 23), (d_law_maker, topS 24), (d_law_are_rounds, topS 25), (d_law, topS 26)]
def blt : List Str := ["len", "min", "sum", "any", "sorted", "tuple", "list", "int", "range", "enumerate"]
def con : List (Str × PyData) := [("SUMS", .str "sums"), ("BITS", .str "bits"), ("TABLE", .str "table")]
theorem ds_eq : rows.map (·.1) = DS := rfl
set_option maxRecDepth 1000000 in
theorem chk : chkAll rows blt con = true := by decide +kernel
set_option maxRecDepth 1000000 in
theorem binds : BindAll rows := .cons (fun _ _ _ _ _ _ us hl => match us, hl with | [_, _], _ => rfl) (.cons (fun _ _ _ _ _ _ us hl => match us, hl with | [_], _ => rfl) (.cons (fun _ _ _ _ _ _ us hl => match us, hl with | [_, _], _ => rfl) (.cons (fun _ _ _ _ _ _ us hl => match us, hl with | [_], _ => rfl) (.cons (fun _ _ _ _ _ _ us hl => match us, hl with | [_, _], _ => rfl) (.cons (fun _ _ _ _ _ _ us hl => match us, hl with | [_], _ => rfl) (.cons (fun _ _ _ _ _ _ us hl => match us, hl with | [_, _, _], _ => rfl) (.cons (fun _ _ _ _ _ _ us hl => match us, hl with | [_, _, _], _ => rfl) (.cons (fun _ _ _ _ _ _ us hl => match us, hl with | [_, _], _ => rfl) (.cons (fun _ _ _ _ _ _ us hl => match us, hl with | [_, _], _ => rfl) (.cons (fun _ _ _ _ _ _ us hl => match us, hl with | [_, _], _ => rfl) (.cons (fun _ _ _ _ _ _ us hl => match us, hl with | [_, _], _ => rfl) (.cons (fun _ _ _ _ _ _ us hl => match us, hl with | [_], _ => rfl) (.cons (fun _ _ _ _ _ _ us hl => match us, hl with | [_], _ => rfl) (.cons (fun _ _ _ _ _ _ us hl => match us, hl with | [_, _], _ => rfl) (.cons (fun _ _ _ _ _ _ us hl => match us, hl with | [_, _], _ => rfl) (.cons (fun _ _ _ _ _ _ us hl => match us, hl with | [_, _], _ => rfl) (.cons (fun _ _ _ _ _ _ us hl => match us, hl with | [_, _], _ => rfl) (.cons (fun _ _ _ _ _ _ us hl => match us, hl with | [_, _], _ => rfl) (.cons (fun _ _ _ _ _ _ us hl => match us, hl with | [_], _ => rfl) (.nil))))))))))))))))))))
open PySem.W PySem.Calls PyProof.Rows
abbrev R : OpenRow := OpenLaw.row PySem.Challenge.rw_drawmakers_k11_whole_rounds
abbrev hk : Hook := He.hookX 5 (fasOf rows blt con) (fnsOf rows) [] (tfOf rows) (exB (tfOf rows))
def ob (s : SharedT) : He.AlX := He.obsX 5 (fasOf rows blt con) (fnsOf rows) [] (tfOf rows) (exB (tfOf rows)) (HandSHeadRun.getT s)
theorem ob_eq (s : SharedT) : ob s = hk.obs s.abs := He.obsX_eq (HandSHeadRun.getT_eq s)
def loose : List Str := (["power", "SUMS", "BITS", "TABLE", "stands", "step", "faces_many", "face", "as_table", "drawn", "behind", "walk", "tail", "round_from", "round_of", "rounds", "lost", "_law_cell_at", "_law_mixed", "_law_drawn", "_law_maker", "_law_are_rounds"] : List Str)
set_option maxHeartbeats 0 in
theorem run (w : World) : HandSHeadRun.RunEq R (view R.prog [26]) hk ob 6000 loose w := by
  intro os
  kernel_rfl
end Lk11
open PySem PySem.W PySem.Calls PyProof.Rows Iv Lk11 in
set_option maxHeartbeats 0 in
theorem PySem.Challenge.cw_drawmakers_k11_whole_rounds_holds : PySem.Challenge.rw_drawmakers_k11_whole_rounds.Holds := by
  w_on; o_law
  refine HandSHeadRun.head_any (r := Lk11.R) (q := view Lk11.R.prog [26]) (H := Lk11.hk) (ob := Lk11.ob) (M := 6000) (loose := Lk11.loose) (d := HandSHeadRun.topDef Lk11.R.prog 26) (kwd := []) Lk11.ob_eq (by kernel_rfl) (fun s => by kernel_rfl) Lk11.run (by kernel_rfl) (by kernel_rfl) (by kernel_rfl) (by rfl) (by first | assumption | decide +kernel) (by decide +kernel) ⟨rfl, rfl, rfl, rfl, rfl, by decide +kernel⟩ ?hw ?hc
  case hw => w_witness2
  case hc =>
    refine LamX.walk_ofTsE (l := PySem.Challenge.rw_drawmakers_k11_whole_rounds) (n := 63) (k := 32) (x := "_law_script") (CX := fun w => L2.CX Lk11.R.prog w) rfl (by decide) (by kernel_rfl) ⟨rfl, by decide, by decide⟩ ?F (fun _ _ _ _ _ z => law_cx z)
    intro w mg fa h Y G hmg0
    obtain ⟨K, KX, c⟩ := Y
    have hmg : mg ("law" : Str) = some (.ref fa) := by
      have e : (HandSHeadRun.topDef Lk11.R.prog 26).name = ("law" : Str) := by kernel_rfl
      rw [← e]
      exact hmg0
    exact ⟨K, KX, law_end (n := 16) c KX G hmg Lk11.chk Lk11.binds fun ns _ => Lk11.hlaw ns⟩
