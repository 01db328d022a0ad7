import PyProof.Rows.All
import Wide.All
import OpenK.AllK
import Wide.FinOn
import HandS.ForMost
import HandS.Zip
import HandS.TupAny
import HandS.TupMul
import HandS.Conv
import KE.KDictKeyed
import KE.KeyNested
import KE.SortData
import KE.DatumIndex
import KE.DatumMoreOrd
import KE.DataAny
import KE.DataIsa
import KE.KDictWalk
import HandS.Style
import HandS.Dict
import HandS.DictComp
import PyProof.TupleOfSeq
import PyProof.Rows.SeqRoads
import HandS.IsInst
import KE.KIndexOf
import KE.KRevSl
import KE.KDictCopyH
import KE.GoesZip
import HandS.Words
import PySem.Challenge.RW_walkmap_k04_whole_papers_of_ways
set_option Elab.async false
set_option linter.all false
set_option maxRecDepth 100000
set_option maxHeartbeats 4000000
/-! WmA: data, the small language IL and its evaluator (plain Lean, no machine in sight). -/
namespace WM
open PySem PySem.W
abbrev D := PyData

mutual
def deq : D → D → Bool
  | .none, .none => true
  | .bool a, .bool b => a == b
  | .int a, .int b => decide (a = b)
  | .str a, .str b => decide (a = b)
  | .list a, .list b => deqL a b
  | .tuple a, .tuple b => deqL a b
  | .dict a, .dict b => deqP a b
  | _, _ => false
def deqL : List D → List D → Bool
  | [], [] => true
  | a :: as, b :: bs => deq a b && deqL as bs
  | _, _ => false
def deqP : List (D × D) → List (D × D) → Bool
  | [], [] => true
  | (a, x) :: as, (b, y) :: bs => deq a b && deq x y && deqP as bs
  | _, _ => false
end
mutual
theorem deq_self : ∀ a : D, deq a a = true
  | .none => rfl
  | .bool a => by simp [deq]
  | .int a => by simp [deq]
  | .str a => by simp [deq]
  | .list a => by rw [deq]; exact deqL_self a
  | .tuple a => by rw [deq]; exact deqL_self a
  | .dict a => by rw [deq]; exact deqP_self a
theorem deqL_self : ∀ a : List D, deqL a a = true
  | [] => rfl
  | a :: as => by rw [deqL, deq_self a, deqL_self as]; rfl
theorem deqP_self : ∀ a : List (D × D), deqP a a = true
  | [] => rfl
  | (a, x) :: as => by rw [deqP, deq_self a, deq_self x, deqP_self as]; rfl
end
mutual
theorem eq_of_deq : ∀ a b : D, deq a b = true → a = b
  | .none, b, h => by cases b <;> first | rfl | (simp [deq] at h)
  | .bool a, b, h => by cases b <;> simp [deq] at h; rw [h]
  | .int a, b, h => by cases b <;> simp [deq] at h; rw [h]
  | .str a, b, h => by cases b <;> simp [deq] at h; rw [h]
  | .list a, b, h => by
    cases b <;> simp only [deq] at h <;> first | (rw [eq_of_deqL _ _ h]) | (cases h)
  | .tuple a, b, h => by
    cases b <;> simp only [deq] at h <;> first | (rw [eq_of_deqL _ _ h]) | (cases h)
  | .dict a, b, h => by
    cases b <;> simp only [deq] at h <;> first | (rw [eq_of_deqP _ _ h]) | (cases h)
theorem eq_of_deqL : ∀ a b : List D, deqL a b = true → a = b
  | [], b, h => by cases b with | nil => rfl | cons _ _ => simp [deqL] at h
  | a :: as, b, h => by
    cases b with
    | nil => simp [deqL] at h
    | cons b bs =>
      rw [deqL, Bool.and_eq_true] at h
      rw [eq_of_deq a b h.1, eq_of_deqL as bs h.2]
theorem eq_of_deqP : ∀ a b : List (D × D), deqP a b = true → a = b
  | [], b, h => by cases b with | nil => rfl | cons _ _ => simp [deqP] at h
  | (a, x) :: as, b, h => by
    cases b with
    | nil => simp [deqP] at h
    | cons b bs =>
      obtain ⟨b, y⟩ := b
      rw [deqP, Bool.and_eq_true, Bool.and_eq_true] at h
      rw [eq_of_deq a b h.1.1, eq_of_deq x y h.1.2, eq_of_deqP as bs h.2]
end
instance : DecidableEq D := fun a b => if h : deq a b = true then .isTrue (eq_of_deq a b h) else .isFalse fun e => h (e ▸ deq_self a)

/-! ### dicts as lists of pairs -/
def dget (kvs : List (D × D)) (k : D) : Option D := (kvs.find? fun p => decide (p.1 = k)).map (·.2)
def dput (kvs : List (D × D)) (k v : D) : List (D × D) :=
  if kvs.any (fun p => decide (p.1 = k)) then kvs.map fun p => if p.1 = k then (p.1, v) else p else kvs ++ [(k, v)]
mutual
/-- ints, texts and tuples of such: these are keys -/
def keyd : D → Bool
  | .int _ => true
  | .str _ => true
  | .tuple xs => keydL xs
  | _ => false
def keydL : List D → Bool
  | [] => true
  | x :: xs => keyd x && keydL xs
end
def isTup : D → Bool | .tuple _ => true | _ => false
/-- a key that fits a dict with these entries: of one kind, not too deep -/
def fitsK (kvs : List (D × D)) (k : D) : Bool := keyd k && decide (k.depth ≤ 8) && kvs.all fun p => isTup p.1 == isTup k

/-! ### operators on data -/
def shallow (d : D) : Bool := d.plain && decide (d.depth ≤ 50)
def isNone : D → Bool | .none => true | _ => false
inductive BOp | add | sub | mul | fdiv | mod | pow deriving DecidableEq
inductive COp | eq | ne | lt | le | gt | ge | inn | nin | is | isn deriving DecidableEq
def big (i : Int) : Bool := decide (-(2 ^ 64) < i ∧ i < 2 ^ 64)
def evBin : BOp → D → D → Option D
  | .add, .int a, .int b => some (.int (a + b))
  | .add, .tuple a, .tuple b => if a.length + b.length ≤ 1000000 then some (.tuple (a ++ b)) else none
  | .add, .list a, .list b => if a.length + b.length ≤ 1000000 then some (.list (a ++ b)) else none
  | .sub, .int a, .int b => some (.int (a - b))
  | .mul, .int a, .int b => if big a || big b then some (.int (a * b)) else none
  | .mul, .tuple a, .int k => if a ≠ [] ∧ 1 ≤ k ∧ k ≤ 1000 ∧ a.length ≤ 1000 then some (.tuple (List.replicate k.toNat a).flatten) else none
  | .mul, .list a, .int k => if 0 ≤ k ∧ k ≤ 1000 ∧ a.length ≤ 1000 then some (.list (List.replicate k.toNat a).flatten) else none
  | .fdiv, .int a, .int b => if 0 < b ∧ b < 1073741824 then some (.int (a / b)) else none
  | .mod, .int a, .int b => if 0 < b then some (.int (a % b)) else none
  | .pow, .int a, .int b => if 0 ≤ b ∧ b ≤ 1000000 ∧ a.natAbs < 2 ^ 64 then some (.int (a ^ b.toNat)) else none
  | _, _, _ => none
def cmpOk (a b : D) : Bool := alike a b && !isNone a && shallow a && shallow b
def evIn (a : D) : D → Option Bool
  | .tuple xs => if shallow a && PyData.plainAll xs then some (xs.any fun y => PyData.eqv y a) else none
  | .list xs => if shallow a && PyData.plainAll xs then some (xs.any fun y => PyData.eqv y a) else none
  | .dict kvs => if fitsK kvs a then some (dget kvs a).isSome else none
  | .str z => match a with
    | .str ⟨cs⟩ => if cs.size = 1 then some (decide (cs.toList.headD 0 ∈ z.cps.toList)) else none
    | _ => none
  | _ => none
def evCmp : COp → D → D → Option Bool
  | .eq, a, b => if shallow a && shallow b then some (PyData.eqv a b) else none
  | .ne, a, b => if shallow a && shallow b then some (!PyData.eqv a b) else none
  | .lt, a, b => if cmpOk a b then some (dataLt a b) else none
  | .gt, a, b => if cmpOk a b then some (dataLt b a) else none
  | .le, a, b => if cmpOk a b then some (!dataLt b a) else none
  | .ge, a, b => if cmpOk a b then some (!dataLt a b) else none
  | .inn, a, b => evIn a b
  | .nin, a, b => (evIn a b).map (!·)
  | .is, a, b => if isNone b then some (isNone a) else none
  | .isn, a, b => if isNone b then some (!isNone a) else none
inductive Fn | len | min | max | sum | sorted | tuple | list | int | abs | all | any | sortedSet | lenSet | minVals | tupVals deriving DecidableEq
inductive Fn2 | min | max deriving DecidableEq
inductive Ty | int | bool | str | tuple | list deriving DecidableEq
def items : D → Option (List D)
  | .tuple xs => some xs
  | .list xs => some xs
  | _ => none
def allAlike (xs : List D) : Bool := xs.all fun a => xs.all fun b => alike a b
def sortable (xs : List D) : Bool := (xs.all fun d => match d with | .tuple (_ :: _) => true | _ => false) || xs.all fun d => !isNone d && !isTup d
def sortD (xs : List D) : List D := xs.mergeSort (dataLe false id)
def okSort (xs : List D) : Bool := allAlike xs && sortable xs && keydL xs && decide (PyData.depthAll xs ≤ 50)
def inLong (i : Int) : Bool := decide (-(2 ^ 62) < i ∧ i < 2 ^ 62)
def sumI (acc : Int) : List D → Option Int
  | [] => some acc
  | .int i :: r => if inLong i && inLong (acc + i) then sumI (acc + i) r else none
  | _ :: _ => none
/-- each item once, at its first place -/
def dedup : List D → List D := fun xs => xs.foldl (fun a x => if a.any fun y => decide (y = x) then a else a ++ [x]) []
def okSet (xs : List D) : Bool := xs.all fun k => keyd k && decide (k.depth ≤ 8)
def minL : List D → Option D
  | x :: xs => if allAlike (x :: xs) && PyData.plainAll (x :: xs) && decide (PyData.depthAll (x :: xs) ≤ 50) && !isNone x then some (minD x xs) else none
  | [] => none
def maxL : List D → Option D
  | x :: xs => if allAlike (x :: xs) && PyData.plainAll (x :: xs) && decide (PyData.depthAll (x :: xs) ≤ 50) && !isNone x then some (maxD x xs) else none
  | [] => none
def evFn : Fn → D → Option D
  | .len, .tuple xs => some (.int xs.length)
  | .len, .list xs => some (.int xs.length)
  | .len, .dict xs => some (.int xs.length)
  | .len, .str x => if x.length ≤ 1000000 then some (.int x.length) else none
  | .min, d => (items d).bind minL
  | .max, d => (items d).bind maxL
  | .sum, .list xs => (sumI 0 xs).map .int
  | .sorted, .dict kvs => if okSort (kvs.map (·.1)) then some (.list (sortD (kvs.map (·.1)))) else none
  | .sorted, d => (items d).bind fun xs => if okSort xs then some (.list (sortD xs)) else none
  | .tuple, .tuple xs => some (.tuple xs)
  | .tuple, .list xs => some (.tuple xs)
  | .list, .tuple xs => some (.list xs)
  | .list, .list xs => some (.list xs)
  | .int, .int i => some (.int i)
  | .int, .bool b => some (.int (if b then 1 else 0))
  | .abs, .int i => some (.int (if i < 0 then -i else i))
  | .all, .list xs => if PyData.plainAll xs && xs.all (fun d => match d with | .bool _ => true | _ => false) then some (.bool (xs.all PyData.truthy)) else none
  | .any, .list xs => if PyData.plainAll xs && xs.all (fun d => match d with | .bool _ => true | _ => false) then some (.bool (xs.any PyData.truthy)) else none
  | .sortedSet, d => (items d).bind fun xs => if okSet xs && okSort (dedup xs) then some (.list (sortD (dedup xs))) else none
  | .lenSet, d => (items d).bind fun xs => if okSet xs then some (.int (dedup xs).length) else none
  | .minVals, .dict kvs => minL (kvs.map (·.2))
  | .tupVals, .dict kvs => some (.tuple (kvs.map (·.2)))
  | _, _ => none
def evFn2 : Fn2 → D → D → Option D
  | .min, a, b => minL [a, b]
  | .max, a, b => maxL [a, b]
def isTy : Ty → D → Bool
  | .int, .int _ => true
  | .int, .bool _ => true
  | .bool, .bool _ => true
  | .str, .str _ => true
  | .tuple, .tuple _ => true
  | .list, .list _ => true
  | _, _ => false
/-- the place of an index -/
def ixAt {α : Type} (xs : List α) (i : Int) : Option α := if 0 ≤ i then xs[i.toNat]? else if 0 ≤ i + xs.length then xs[(i + xs.length).toNat]? else none
def small (i : Int) : Bool := decide (-(2 ^ 62) < i ∧ i < 2 ^ 62)
def evIdx : D → D → Option D
  | .tuple xs, .int i => if small i then ixAt xs i else none
  | .list xs, .int i => if small i then ixAt xs i else none
  | .str z, .int i => if small i ∧ z.length ≤ 1000000 then (ixAt z.cps.toList i).map fun c => .str ⟨#[c]⟩ else none
  | .dict kvs, k => if fitsK kvs k then dget kvs k else none
  | _, _ => none
/-- where a slice's bound comes to lie -/
def cutIx (n : Nat) (dflt : Nat) : Option Int → Nat
  | none => dflt
  | some i => if 0 ≤ i then min i.toNat n else (i + n).toNat
def cutL {α : Type} (xs : List α) (lo hi : Option Int) : List α := (xs.drop (cutIx xs.length 0 lo)).take (cutIx xs.length xs.length hi - cutIx xs.length 0 lo)
def evCut : D → Option Int → Option Int → Option D
  | .tuple xs, lo, hi => some (.tuple (cutL xs lo hi))
  | .list xs, lo, hi => some (.list (cutL xs lo hi))
  | _, _, _ => none
def everyOther {α : Type} : List α → List α
  | x :: _ :: r => x :: everyOther r
  | [x] => [x]
  | [] => []
/-- d[::-1], d[::2] -/
def evStep : D → Int → Option D
  | .tuple xs, -1 => some (.tuple xs.reverse)
  | .list xs, -1 => some (.list xs.reverse)
  | .tuple xs, 2 => some (.tuple (everyOther xs))
  | .list xs, 2 => some (.list (everyOther xs))
  | _, _ => none
def evGet (kvs : List (D × D)) (k x : D) : Option D := if fitsK kvs k then some ((dget kvs k).getD x) else none
def truth : D → Option Bool
  | .bool b => some b
  | _ => none

/-! ### the language -/
/-- what a slot holds: nothing known; data; an own list; an own dict; the caller's list (lent) -/
inductive SV
  | un | d (x : D) | ol (xs : List D) | od (kvs : List (D × D)) | bo (xs : List D)
abbrev Env := List SV
abbrev FP := List D → Option D
abbrev FB := List D → List D → Option (D × List D)
/-- a target: a name, a tuple of names -/
inductive Tg | nm (i : Nat) | tp (is : List Nat)
mutual
inductive E
  | var (i : Nat) | glo (x : Str) (d : D) | int (i : Int) | str (s : Str) | bl (b : Bool) | non
  | tup (es : Es) | lst (es : Es)
  | bin (o : BOp) (a b : E) | neg (a : E)
  | cmp (o : COp) (a b : E) | chn (o1 o2 : COp) (a b c : E)
  | and (a b : E) | or (a b : E) | nt (a : E)
  | ite (t : T) (a b : E)
  | call (f : Str) (F : FP) (es : Es) | callB (f : Str) (F : FB) (i : Nat) (es : Es)
  | fn (f : Fn) (a : E) | fn2 (f : Fn2) (a b : E) | max3 (a b c : E)
  | isi (a : E) (ts : List Ty)
  | idx (a b : E) | cut (a : E) (lo hi : OE) | step (a : E) (k : Int)
  | index (a b : E)
  | lc (e : E) (g : Tg) (it : It) (ifs : Ts) (own : List (Str × Nat))
  | lc2 (e : E) (g : Tg) (it : It) (g2 : Tg) (it2 : It) (ifs2 : Ts) (own : List (Str × Nat)) (own2 : List Nat)
  | dc (k v : E) (g : Tg) (it : It) (own : List (Str × Nat))
  | oIdx (i : Nat) (b : E) | oIn (neg : Bool) (a : E) (i : Nat) | oGet (i : Nat) (k x : E) | oLen (i : Nat) | oCmp (o : COp) (i : Nat) (b : E)
  | sortK (a : E)
inductive Es | nil | cons (e : E) (es : Es)
inductive OE | no | yes (e : E)
inductive T | val (e : E) | and (a b : T) | or (a b : T) | not (a : T)
inductive Ts | nil | one (t : T)
inductive It | seq (e : E) | rng (a : E) | rng2 (a b : E) | zip (a b : E) | enum (a : E)
end
mutual
inductive S
  | asg (i : Nat) (e : E) | asgO (i : Nat) (e : E) | asgD (i : Nat) | asgT (is : List Nat) (e : E) | par (is : List Nat) (es : Es)
  | app (i : Nat) (e : E) | put (i : Nat) (k v : E) | setB (i : Nat) (j e : E)
  | ret (e : E) | ite (t : T) (a b : Ss) | loop (g : Tg) (it : It) (b : Ss) (kill : List Nat)
  | exp (e : E) | never
inductive Ss | nil | cons (s : S) (r : Ss)
end
def isOwn : Option SV → Bool
  | some (.ol _) => true
  | some (.od _) => true
  | some (.bo _) => true
  | _ => false
def isOd : Option SV → Bool
  | some (.od _) => true
  | _ => false
def isOl : Option SV → Bool
  | some (.ol _) => true
  | _ => false
inductive Out | nx | ret (d : D)

/-! ### its evaluator -/
def wipeE (ρ : Env) : List Nat → Env
  | [] => ρ
  | v :: vs => (wipeE ρ vs).set v .un
/-- slots that a comprehension's own names take must hold no object of one's own -/
def plainSlot : Option SV → Bool | some (.d _) => true | some .un => true | _ => false
/-- behind a comprehension its own names' slots are as ahead of it -/
def backE (ρ0 ρ1 : Env) : List Nat → Env
  | [] => ρ1
  | v :: vs => match ρ0[v]? with
    | some x => (backE ρ0 ρ1 vs).set v x
    | none => backE ρ0 ρ1 vs
def rdVar (ρ : Env) (i : Nat) : Option (D × Env) := match ρ[i]? with
  | some (.d x) => some (x, ρ)
  | some (.ol xs) => some (.list xs, ρ.set i (.d (.list xs)))
  | some (.od kvs) => some (.dict kvs, ρ.set i (.d (.dict kvs)))
  | _ => none
def storeAll (ρ : Env) : List Nat → List D → Option Env
  | [], [] => some ρ
  | i :: is, x :: xs => storeAll (ρ.set i (.d x)) is xs
  | _, _ => none
def bindT (ρ : Env) : Tg → D → Option Env
  | .nm i, x => some (ρ.set i (.d x))
  | .tp is, .tuple xs => storeAll ρ is xs
  | _, _ => none
def pairUp : List D → List D → List D
  | x :: xs, y :: ys => .tuple [x, y] :: pairUp xs ys
  | _, _ => []
def numb (n : Int) : List D → List D
  | [] => []
  | x :: xs => .tuple [.int n, x] :: numb (n + 1) xs
def walked : D → Option (List D)
  | .tuple xs => some xs
  | .list xs => some xs
  | .dict kvs => some (kvs.map (·.1))
  | _ => none
def rangeD (lo : Int) : Nat → List D
  | 0 => []
  | n + 1 => .int lo :: rangeD (lo + 1) n
/-- the elements of a comprehension, item by item -/
def lcGo (f : D → Env → Option (List D × Env)) : List D → Env → Option (List D × Env)
  | [], ρ => some ([], ρ)
  | x :: xs, ρ => (f x ρ).bind fun (ys, ρ1) => (lcGo f xs ρ1).bind fun (zs, ρ2) => some (ys ++ zs, ρ2)
def dcGo (f : D → Env → Option ((D × D) × Env)) : List D → Env → List (D × D) → Option (List (D × D) × Env)
  | [], ρ, acc => some (acc, ρ)
  | x :: xs, ρ, acc => (f x ρ).bind fun (kv, ρ1) => if fitsK acc kv.1 && decide (acc.length ≤ 100000) then dcGo f xs ρ1 (dput acc kv.1 kv.2) else none
def loopGo (f : D → Env → Option (Out × Env)) : List D → Env → Option (Out × Env)
  | [], ρ => some (.nx, ρ)
  | x :: xs, ρ => (f x ρ).bind fun (o, ρ1) => match o with
    | .nx => loopGo f xs ρ1
    | .ret d => some (.ret d, ρ1)
def lenOk {α : Type} (xs : List α) : Bool := decide (xs.length ≤ 1000000)
def asInt : D → Option Int | .int i => some i | _ => none
def sortKD (xs : List D) : List D := xs.mergeSort (dataLe false fun d => match d with | .tuple ys => .tuple [.int ys.length, d] | _ => .none)
mutual
def den : E → Env → Option (D × Env)
  | .var i, ρ => rdVar ρ i
  | .glo _ d, ρ => some (d, ρ)
  | .int i, ρ => some (.int i, ρ)
  | .str s, ρ => some (.str s, ρ)
  | .bl b, ρ => some (.bool b, ρ)
  | .non, ρ => some (.none, ρ)
  | .tup es, ρ => (denEs es ρ).bind fun (ds, ρ1) => some (.tuple ds, ρ1)
  | .lst es, ρ => (denEs es ρ).bind fun (ds, ρ1) => some (.list ds, ρ1)
  | .bin o a b, ρ => (den a ρ).bind fun (x, ρ1) => (den b ρ1).bind fun (y, ρ2) => (evBin o x y).bind fun z => some (z, ρ2)
  | .neg a, ρ => (den a ρ).bind fun (x, ρ1) => (asInt x).bind fun i => some (.int (-i), ρ1)
  | .cmp o a b, ρ => (den a ρ).bind fun (x, ρ1) => (den b ρ1).bind fun (y, ρ2) => (evCmp o x y).bind fun z => some (.bool z, ρ2)
  | .chn o1 o2 a b c, ρ => (den a ρ).bind fun (x, ρ1) => (den b ρ1).bind fun (y, ρ2) => (evCmp o1 x y).bind fun k =>
      if k then (den c ρ2).bind fun (z, ρ3) => (evCmp o2 y z).bind fun k2 => some (.bool k2, ρ3) else some (.bool false, ρ2)
  | .and a b, ρ => (den a ρ).bind fun (x, ρ1) => (truth x).bind fun k => if k then den b ρ1 else some (.bool false, ρ1)
  | .or a b, ρ => (den a ρ).bind fun (x, ρ1) => (truth x).bind fun k => if k then some (.bool true, ρ1) else den b ρ1
  | .nt a, ρ => (den a ρ).bind fun (x, ρ1) => (truth x).bind fun k => some (.bool (!k), ρ1)
  | .ite t a b, ρ => (denT t ρ).bind fun (k, ρ1) => if k then den a ρ1 else den b ρ1
  | .call _ F es, ρ => (denEs es ρ).bind fun (ds, ρ1) => (F ds).bind fun d => some (d, ρ1)
  | .callB _ F i es, ρ => if isOwn ρ[i]? then (denEs es ρ).bind fun (ds, ρ1) => match ρ1[i]? with
      | some (.bo xs) => (F xs ds).bind fun (d, xs') => some (d, ρ1.set i (.bo xs'))
      | _ => none else none
  | .fn f a, ρ => (den a ρ).bind fun (x, ρ1) => (evFn f x).bind fun z => some (z, ρ1)
  | .fn2 f a b, ρ => (den a ρ).bind fun (x, ρ1) => (den b ρ1).bind fun (y, ρ2) => (evFn2 f x y).bind fun z => some (z, ρ2)
  | .max3 a b c, ρ => (den a ρ).bind fun (x, ρ1) => (den b ρ1).bind fun (y, ρ2) => (den c ρ2).bind fun (z, ρ3) => (maxL [x, y, z]).bind fun u => some (u, ρ3)
  | .isi a ts, ρ => (den a ρ).bind fun (x, ρ1) => some (.bool (ts.any fun t => isTy t x), ρ1)
  | .idx a b, ρ => (den a ρ).bind fun (x, ρ1) => (den b ρ1).bind fun (y, ρ2) => (evIdx x y).bind fun z => some (z, ρ2)
  | .cut a lo hi, ρ => (den a ρ).bind fun (x, ρ1) => (denO lo ρ1).bind fun (l, ρ2) => (denO hi ρ2).bind fun (h, ρ3) => (evCut x l h).bind fun z => some (z, ρ3)
  | .step a k, ρ => (den a ρ).bind fun (x, ρ1) => (evStep x k).bind fun z => some (z, ρ1)
  | .index a b, ρ => (den a ρ).bind fun (x, ρ1) => (den b ρ1).bind fun (y, ρ2) => match x with
      | .list xs => if keydL xs && keyd y && decide (y.depth ≤ 8) && decide (y ∈ xs) then some (.int (xs.idxOf y), ρ2) else none
      | _ => none
  | .lc e g it ifs own, ρ => (denIt it ρ).bind fun (xs, ρ1) =>
      if (own.all fun p => plainSlot ρ1[p.2]?) then
        (lcGo (fun x ρ => (bindT (wipeE ρ (own.map (·.2))) g x).bind fun ρ2 => (denTs ifs ρ2).bind fun (k, ρ3) =>
          if k then (den e ρ3).bind fun (y, ρ4) => some ([y], wipeE ρ4 (own.map (·.2))) else some ([], wipeE ρ3 (own.map (·.2)))) xs (wipeE ρ1 (own.map (·.2)))).bind fun (ys, ρ5) =>
        if lenOk ys then some (.list ys, backE ρ1 ρ5 (own.map (·.2))) else none
      else none
  | .lc2 e g it g2 it2 ifs2 own own2, ρ => (denIt it ρ).bind fun (xs, ρ1) =>
      if (own.all fun p => plainSlot ρ1[p.2]?) then
        (lcGo (fun x ρ => (bindT (wipeE ρ (own.map (·.2))) g x).bind fun ρ2 => (denIt it2 ρ2).bind fun (xs2, ρ3) =>
          (lcGo (fun y ρ' => (bindT (wipeE ρ' own2) g2 y).bind fun ρ4 => (denTs ifs2 ρ4).bind fun (k, ρ5) =>
            if k then (den e ρ5).bind fun (z, ρ6) => some ([z], wipeE ρ6 own2) else some ([], wipeE ρ5 own2)) xs2 (wipeE ρ3 own2)).bind fun (zs, ρ7) => some (zs, wipeE ρ7 (own.map (·.2)))) xs (wipeE ρ1 (own.map (·.2)))).bind fun (ys, ρ8) =>
        if lenOk ys then some (.list ys, backE ρ1 ρ8 (own.map (·.2))) else none
      else none
  | .dc k v g it own, ρ => (denIt it ρ).bind fun (xs, ρ1) =>
      if (own.all fun p => plainSlot ρ1[p.2]?) then
        (dcGo (fun x ρ => (bindT (wipeE ρ (own.map (·.2))) g x).bind fun ρ2 => (den k ρ2).bind fun (kd, ρ3) => (den v ρ3).bind fun (vd, ρ4) => some ((kd, vd), wipeE ρ4 (own.map (·.2)))) xs (wipeE ρ1 (own.map (·.2))) []).bind fun (kvs, ρ5) =>
        some (.dict kvs, backE ρ1 ρ5 (own.map (·.2)))
      else none
  | .oIdx i b, ρ => if isOwn ρ[i]? then (den b ρ).bind fun (y, ρ1) => match ρ1[i]? with
      | some (.ol xs) => (evIdx (.list xs) y).bind fun z => some (z, ρ1)
      | some (.bo xs) => (evIdx (.list xs) y).bind fun z => some (z, ρ1)
      | some (.od kvs) => (evIdx (.dict kvs) y).bind fun z => some (z, ρ1)
      | _ => none else match ρ[i]? with
      | some (.d x) => (den b ρ).bind fun (y, ρ1) => (evIdx x y).bind fun z => some (z, ρ1)
      | _ => none
  | .oIn neg a i, ρ => (den a ρ).bind fun (x, ρ1) => match ρ1[i]? with
      | some (.od kvs) => (evIn x (.dict kvs)).bind fun k => some (.bool (if neg then !k else k), ρ1)
      | some (.d y) => (evIn x y).bind fun k => some (.bool (if neg then !k else k), ρ1)
      | _ => none
  | .oGet i k x, ρ => if isOd ρ[i]? then (den k ρ).bind fun (kd, ρ1) => (den x ρ1).bind fun (xd, ρ2) => match ρ2[i]? with
      | some (.od kvs) => (evGet kvs kd xd).bind fun z => some (z, ρ2)
      | _ => none else none
  | .oLen i, ρ => match ρ[i]? with
      | some (.ol xs) => some (.int xs.length, ρ)
      | some (.d x) => (evFn .len x).bind fun z => some (z, ρ)
      | _ => none
  | .oCmp o i b, ρ => if isOwn ρ[i]? then (den b ρ).bind fun (y, ρ1) => match ρ1[i]? with
      | some (.ol xs) => if PyData.plainAll xs then (evCmp o (.list xs) y).bind fun k => some (.bool k, ρ1) else none
      | _ => none else match ρ[i]? with
      | some (.d x) => (den b ρ).bind fun (y, ρ1) => (evCmp o x y).bind fun k => some (.bool k, ρ1)
      | _ => none
  | .sortK a, ρ => (den a ρ).bind fun (x, ρ1) => match x with
      | .list xs => if xs.all (fun d => match d with | .tuple ys => ys.all (fun y => match y with | .str _ => true | _ => false) && lenOk ys | _ => false) then some (.list (sortKD xs), ρ1) else none
      | _ => none
def denEs : Es → Env → Option (List D × Env)
  | .nil, ρ => some ([], ρ)
  | .cons e es, ρ => (den e ρ).bind fun (d, ρ1) => (denEs es ρ1).bind fun (ds, ρ2) => some (d :: ds, ρ2)
def denO : OE → Env → Option (Option Int × Env)
  | .no, ρ => some (none, ρ)
  | .yes e, ρ => (den e ρ).bind fun (d, ρ1) => (asInt d).bind fun i => if small i then some (some i, ρ1) else none
def denT : T → Env → Option (Bool × Env)
  | .val e, ρ => (den e ρ).bind fun (x, ρ1) => (truth x).bind fun k => some (k, ρ1)
  | .and a b, ρ => (denT a ρ).bind fun (k, ρ1) => if k then denT b ρ1 else some (false, ρ1)
  | .or a b, ρ => (denT a ρ).bind fun (k, ρ1) => if k then some (true, ρ1) else denT b ρ1
  | .not a, ρ => (denT a ρ).bind fun (k, ρ1) => some (!k, ρ1)
def denTs : Ts → Env → Option (Bool × Env)
  | .nil, ρ => some (true, ρ)
  | .one t, ρ => denT t ρ
def denIt : It → Env → Option (List D × Env)
  | .seq e, ρ => (den e ρ).bind fun (x, ρ1) => (walked x).bind fun xs => some (xs, ρ1)
  | .rng a, ρ => (den a ρ).bind fun (x, ρ1) => (asInt x).bind fun i => if small i then some (rangeD 0 i.toNat, ρ1) else none
  | .rng2 a b, ρ => (den a ρ).bind fun (x, ρ1) => (den b ρ1).bind fun (y, ρ2) => (asInt x).bind fun i => (asInt y).bind fun j => if small i && small j then some (rangeD i (j - i).toNat, ρ2) else none
  | .zip a b, ρ => (den a ρ).bind fun (x, ρ1) => (den b ρ1).bind fun (y, ρ2) => (items x).bind fun xs => (items y).bind fun ys => some (pairUp xs ys, ρ2)
  | .enum a, ρ => (den a ρ).bind fun (x, ρ1) => match x with
      | .list xs => some (numb 0 xs, ρ1)
      | _ => none
end
mutual
def denS : S → Env → Option (Out × Env)
  | .asg i e, ρ => (den e ρ).bind fun (x, ρ1) => some (.nx, ρ1.set i (.d x))
  | .asgO i e, ρ => (den e ρ).bind fun (x, ρ1) => match x with
      | .list xs => some (.nx, ρ1.set i (.ol xs))
      | .dict kvs => some (.nx, ρ1.set i (.od kvs))
      | _ => none
  | .asgD i, ρ => some (.nx, ρ.set i (.od []))
  | .asgT is e, ρ => (den e ρ).bind fun (x, ρ1) => match x with
      | .tuple xs => (storeAll ρ1 is xs).bind fun ρ2 => some (.nx, ρ2)
      | _ => none
  | .par is es, ρ => (denEs es ρ).bind fun (xs, ρ1) => (storeAll ρ1 is xs).bind fun ρ2 => some (.nx, ρ2)
  | .app i e, ρ => if isOl ρ[i]? then (den e ρ).bind fun (x, ρ1) => match ρ1[i]? with
      | some (.ol xs) => if lenOk xs then some (.nx, ρ1.set i (.ol (xs ++ [x]))) else none
      | _ => none else none
  | .put i k v, ρ => (den v ρ).bind fun (vd, ρ1) => if isOwn ρ1[i]? then (den k ρ1).bind fun (kd, ρ2) => match ρ2[i]? with
      | some (.od kvs) => if fitsK kvs kd && decide (kvs.length ≤ 100000) then some (.nx, ρ2.set i (.od (dput kvs kd vd))) else none
      | _ => none else none
  | .setB i j e, ρ => (den e ρ).bind fun (x, ρ1) => if isOwn ρ1[i]? then (den j ρ1).bind fun (y, ρ2) => (asInt y).bind fun k => match ρ2[i]? with
      | some (.bo xs) => if 0 ≤ k ∧ k.toNat < xs.length then some (.nx, ρ2.set i (.bo (xs.set k.toNat x))) else none
      | _ => none else none
  | .ret e, ρ => (den e ρ).bind fun (x, ρ1) => some (.ret x, ρ1)
  | .ite t a b, ρ => (denT t ρ).bind fun (k, ρ1) => if k then denSs a ρ1 else denSs b ρ1
  | .loop g it b kill, ρ => (denIt it ρ).bind fun (xs, ρ1) =>
      loopGo (fun x ρ => (bindT ρ g x).bind fun ρ2 => (denSs b ρ2).bind fun (o, ρ3) => some (o, wipeE ρ3 kill)) xs (wipeE ρ1 kill)
  | .exp e, ρ => (den e ρ).bind fun (_, ρ1) => some (.nx, ρ1)
  | .never, _ => none
def denSs : Ss → Env → Option (Out × Env)
  | .nil, ρ => some (.nx, ρ)
  | .cons s r, ρ => (denS s ρ).bind fun (o, ρ1) => match o with
    | .nx => denSs r ρ1
    | .ret d => some (.ret d, ρ1)
end
def lentOf : Option SV → Option (List D)
  | some (.bo xs) => some xs
  | _ => none
def outOf : Out → D
  | .nx => .none
  | .ret d => d
/-- a def called with data -/
def runP (b : Ss) (n k : Nat) : FP := fun ds => if ds.length = k then
  (denSs b (ds.map .d ++ List.replicate (n - k) .un)).bind fun (o, _) => some (outOf o) else none
/-- a def whose first argument is a list that it may change -/
def runB (b : Ss) (n k : Nat) : FB := fun xs ds => if ds.length + 1 = k then
  (denSs b (.bo xs :: ds.map .d ++ List.replicate (n - k) .un)).bind fun (o, ρ) => (lentOf ρ[0]?).bind fun xs' => some (outOf o, xs') else none
end WM
set_option Elab.async false
set_option linter.all false
set_option maxRecDepth 100000
set_option maxHeartbeats 4000000
/-! WmB: data over the abstract heap. -/
namespace WM
open PySem PySem.Spec PyProof.Rows L2

/-! the key that a datum is -/
mutual
def nk : D → NestedKey
  | .int i => .num i
  | .str x => .text x
  | .tuple xs => .tup (nkL xs)
  | _ => .none
def nkL : List D → List NestedKey
  | [] => []
  | x :: xs => nk x :: nkL xs
end
mutual
theorem nk_inj : ∀ a b : D, keyd a = true → keyd b = true → nk a = nk b → a = b
  | .int a, b, _, hb, h => by cases b <;> simp [nk, keyd] at h hb; rw [h]
  | .str a, b, _, hb, h => by cases b <;> simp [nk, keyd] at h hb; rw [h]
  | .tuple a, b, ha, hb, h => by
    cases b with
    | tuple b =>
      simp only [keyd] at ha hb
      simp only [nk, NestedKey.tup.injEq] at h
      rw [nkL_inj a b ha hb h]
    | _ => simp [nk, keyd] at h hb
  | .none, _, ha, _, _ => by simp [keyd] at ha
  | .bool _, _, ha, _, _ => by simp [keyd] at ha
  | .list _, _, ha, _, _ => by simp [keyd] at ha
  | .dict _, _, ha, _, _ => by simp [keyd] at ha
theorem nkL_inj : ∀ a b : List D, keydL a = true → keydL b = true → nkL a = nkL b → a = b
  | [], b, _, _, h => by cases b with | nil => rfl | cons _ _ => simp [nkL] at h
  | a :: as, b, ha, hb, h => by
    cases b with
    | nil => simp [nkL] at h
    | cons b bs =>
      rw [keydL, Bool.and_eq_true] at ha hb
      rw [nkL, nkL, List.cons.injEq] at h
      rw [nk_inj a b ha.1 hb.1 h.1, nkL_inj as bs ha.2 hb.2 h.2]
end
mutual
theorem nk_depth : ∀ a : D, keyd a = true → (nk a).depth = a.depth
  | .int _, _ => rfl
  | .str _, _ => rfl
  | .tuple a, h => by simp only [keyd] at h; simp only [nk, NestedKey.depth, PyData.depth, nkL_depth a h]
  | .none, ha => by simp [keyd] at ha
  | .bool _, ha => by simp [keyd] at ha
  | .list _, ha => by simp [keyd] at ha
  | .dict _, ha => by simp [keyd] at ha
theorem nkL_depth : ∀ a : List D, keydL a = true → NestedKey.depthAll (nkL a) = PyData.depthAll a
  | [], _ => rfl
  | a :: as, h => by
    rw [keydL, Bool.and_eq_true] at h
    simp only [nkL, NestedKey.depthAll, PyData.depthAll, nk_depth a h.1, nkL_depth as h.2]
end
mutual
theorem keyd_plain : ∀ a : D, keyd a = true → a.plain = true
  | .int _, _ => rfl
  | .str _, _ => rfl
  | .tuple a, h => by simp only [keyd] at h; simp only [PyData.plain, keydL_plain a h]
  | .none, ha => by simp [keyd] at ha
  | .bool _, ha => by simp [keyd] at ha
  | .list _, ha => by simp [keyd] at ha
  | .dict _, ha => by simp [keyd] at ha
theorem keydL_plain : ∀ a : List D, keydL a = true → PyData.plainAll a = true
  | [], _ => rfl
  | a :: as, h => by
    rw [keydL, Bool.and_eq_true] at h
    simp only [PyData.plainAll, keyd_plain a h.1, keydL_plain as h.2, Bool.and_self]
end

/-- keys of one kind, none twice -/
structure KOk (kvs : List (D × D)) : Prop where
  nd : (kvs.map (·.1)).Nodup
  key : ∀ p ∈ kvs, keyd p.1 = true ∧ p.1.depth ≤ 8
  one : ∀ p ∈ kvs, ∀ q ∈ kvs, isTup p.1 = isTup q.1
  few : kvs.length ≤ 1000000
theorem KOk.nil : KOk [] := ⟨List.nodup_nil, (fun _ h => nomatch h), (fun _ h => nomatch h), Nat.zero_le _⟩

/-- a dict by its very entries -/
def DX (a : Addr) (es : Array DictEntry) : HO := .ext fun h => ∃ o ep, h.get? a = some o ∧ o.ExactDict ∧ o.data = .dict es ep ∧ (a == sysModules) = false

section
variable (w : World) (K : PySem.W.Frag) (H : Hp)
mutual
/-- the value v is the datum d: lists and dicts are such as never change again -/
inductive Dn : V → D → Prop
  | non : Dn .non .none
  | bl (b) : Dn (.bl b) (.bool b)
  | int (i) : Dn (.int i) (.int i)
  | str (x) : Dn (.str x) (.str x)
  | tup {a xs ds} : SqT K H a xs → DnA xs ds → Dn (.ref a) (.tuple ds)
  | lst {a o xs ds} : H a = some (.frz o (.lst xs)) → DnA xs ds → Dn (.ref a) (.list ds)
  | dct {a o es kvs} : H a = some (.frz o (DX a es)) → KOk kvs → DnE es.toList kvs → Dn (.ref a) (.dict kvs)
inductive DnA : List V → List D → Prop
  | nil : DnA [] []
  | cons {v d vs ds} : Dn v d → DnA vs ds → DnA (v :: vs) (d :: ds)
inductive DnE : List DictEntry → List (D × D) → Prop
  | nil : DnE [] []
  | cons {e kv vv kd vd es kvs} : e.hash = (nk kd).hash w → RelV kv e.key → Dn kv kd → RelV vv e.val → Dn vv vd → DnE es kvs → DnE (e :: es) ((kd, vd) :: kvs)
end
end

/-- what never changes is as it was -/
structure Ext (H H' : Hp) : Prop where
  tup : ∀ b xs, H b = some (.tup xs) → H' b = some (.tup xs)
  frz : ∀ b o u, H b = some (.frz o u) → H' b = some (.frz o u)
theorem Ext.refl (H : Hp) : Ext H H := ⟨fun _ _ h => h, fun _ _ _ h => h⟩
theorem Ext.trans {H H1 H2 : Hp} (a : Ext H H1) (b : Ext H1 H2) : Ext H H2 := ⟨fun c xs h => b.tup c xs (a.tup c xs h), fun c o u h => b.frz c o u (a.frz c o u h)⟩
theorem Ext.new {H : Hp} {p : Addr} {o : HO} (h : H p = none) : Ext H (upd H p o) :=
  ⟨fun b xs e => by rw [upd_ne (ne_of_none e h)]; exact e, fun b o u e => by rw [upd_ne (ne_of_none e h)]; exact e⟩
theorem Ext.lst {H : Hp} {p : Addr} {o : HO} {xs : List V} (h : H p = some (.lst xs)) : Ext H (upd H p o) :=
  ⟨fun b xs e => by rw [upd_ne (ne_of e h (fun z => nomatch z))]; exact e, fun b o u e => by rw [upd_ne (ne_of e h (fun z => nomatch z))]; exact e⟩
theorem Ext.dx {H : Hp} {p : Addr} {o : HO} {es : Array DictEntry} (h : H p = some (DX p es)) : Ext H (upd H p o) :=
  ⟨fun b xs e => by rw [upd_ne (ne_of e h (fun z => nomatch z))]; exact e, fun b o u e => by rw [upd_ne (ne_of e h (fun z => nomatch z))]; exact e⟩
theorem Ext.same {H H' : Hp} (h : ∀ b o, H b = some o → H' b = some o) : Ext H H' := ⟨fun b xs e => h _ _ e, fun b o u e => h _ _ e⟩

theorem SqT.ext {K : PySem.W.Frag} {H H' : Hp} {a : Addr} {xs : List V} (e : Ext H H') (h : SqT K H a xs) : SqT K H' a xs := by
  rcases h with (h | ⟨o, h⟩) | h
  · exact .inl (.inl (e.tup _ _ h))
  · exact .inl (.inr ⟨o, e.frz _ _ _ h⟩)
  · exact .inr h
section
variable {w : World} {K : PySem.W.Frag} {H H' : Hp}
mutual
theorem Dn.ext (e : Ext H H') : ∀ {v : V} {d : D}, Dn w K H v d → Dn w K H' v d
  | _, _, .non => .non
  | _, _, .bl b => .bl b
  | _, _, .int i => .int i
  | _, _, .str x => .str x
  | _, _, .tup h r => .tup (SqT.ext e h) (DnA.ext e r)
  | _, _, .lst h r => .lst (e.frz _ _ _ h) (DnA.ext e r)
  | _, _, .dct h k r => .dct (e.frz _ _ _ h) k (DnE.ext e r)
theorem DnA.ext (e : Ext H H') : ∀ {v : List V} {d : List D}, DnA w K H v d → DnA w K H' v d
  | _, _, .nil => .nil
  | _, _, .cons a b => .cons (Dn.ext e a) (DnA.ext e b)
theorem DnE.ext (e : Ext H H') : ∀ {v : List DictEntry} {d : List (D × D)}, DnE w K H v d → DnE w K H' v d
  | _, _, .nil => .nil
  | _, _, .cons h1 h2 h3 h4 h5 h6 => .cons h1 h2 (Dn.ext e h3) h4 (Dn.ext e h5) (DnE.ext e h6)
end
theorem DnA.length : ∀ {v : List V} {d : List D}, DnA w K H v d → v.length = d.length
  | _, _, .nil => rfl
  | _, _, .cons _ b => by rw [List.length_cons, List.length_cons, b.length]
theorem DnE.length : ∀ {v : List DictEntry} {d : List (D × D)}, DnE w K H v d → v.length = d.length
  | _, _, .nil => rfl
  | _, _, .cons _ _ _ _ _ b => by rw [List.length_cons, List.length_cons, b.length]
theorem DnA.get : ∀ {v : List V} {d : List D} {i : Nat} {x : D}, DnA w K H v d → d[i]? = some x → ∃ u, v[i]? = some u ∧ Dn w K H u x
  | _, _, _, _, .nil, e => by simp at e
  | _, _, 0, _, .cons a _, e => by simp at e; subst e; exact ⟨_, rfl, a⟩
  | _, _, i + 1, x, .cons _ b, e => by
    obtain ⟨u, h1, h2⟩ := DnA.get (i := i) (x := x) b (by simpa using e)
    exact ⟨u, by simpa using h1, h2⟩
theorem DnA.getV : ∀ {v : List V} {d : List D} {i : Nat} {u : V}, DnA w K H v d → v[i]? = some u → ∃ x, d[i]? = some x ∧ Dn w K H u x
  | _, _, _, _, .nil, e => by simp at e
  | _, _, 0, _, .cons a _, e => by simp at e; subst e; exact ⟨_, rfl, a⟩
  | _, _, i + 1, x, .cons _ b, e => by
    obtain ⟨u, h1, h2⟩ := DnA.getV (i := i) (u := x) b (by simpa using e)
    exact ⟨u, by simpa using h1, h2⟩
theorem DnA.append : ∀ {v v' : List V} {d d' : List D}, DnA w K H v d → DnA w K H v' d' → DnA w K H (v ++ v') (d ++ d')
  | _, _, _, _, .nil, h => h
  | _, _, _, _, .cons a b, h => .cons a (DnA.append b h)
theorem DnA.take : ∀ {v : List V} {d : List D} (n : Nat), DnA w K H v d → DnA w K H (v.take n) (d.take n)
  | _, _, 0, _ => .nil
  | _, _, _ + 1, .nil => .nil
  | _, _, n + 1, .cons a b => .cons a (DnA.take n b)
theorem DnA.drop : ∀ {v : List V} {d : List D} (n : Nat), DnA w K H v d → DnA w K H (v.drop n) (d.drop n)
  | _, _, 0, r => r
  | _, _, _ + 1, .nil => .nil
  | _, _, n + 1, .cons _ b => DnA.drop n b
theorem DnA.set {x : V} {y : D} (h : Dn w K H x y) : ∀ {v : List V} {d : List D} (n : Nat), DnA w K H v d → DnA w K H (v.set n x) (d.set n y)
  | _, _, _, .nil => .nil
  | _, _, 0, .cons _ b => .cons h b
  | _, _, n + 1, .cons a b => .cons a (DnA.set h n b)
theorem DnA.reverse : ∀ {v : List V} {d : List D}, DnA w K H v d → DnA w K H v.reverse d.reverse
  | _, _, .nil => .nil
  | _, _, .cons a b => by rw [List.reverse_cons, List.reverse_cons]; exact (DnA.reverse b).append (.cons a .nil)
theorem DnA.flatten {v : List V} {d : List D} (h : DnA w K H v d) : ∀ n, DnA w K H (List.replicate n v).flatten (List.replicate n d).flatten
  | 0 => .nil
  | n + 1 => by rw [List.replicate_succ, List.replicate_succ, List.flatten_cons, List.flatten_cons]; exact h.append (h.flatten n)
end

/-! ### what a value reads as -/
section
variable {X : Cx} {pins : List (Addr × Obj)} {σ : L2.St} {H : Hp} {s : Shared}
mutual
theorem reads_of (I : Inv X pins σ H s) : ∀ (d : D) (v : V) (u : Value), Dn X.w X.K H v d → d.plain = true → RelV v u → ∃ as, Reads s.heap u d as
  | .none, _, _, h, _, r => by cases h; cases r; exact ⟨_, .none⟩
  | .bool b, _, _, h, _, r => by cases h; cases r; exact ⟨_, .bool b⟩
  | .int i, _, _, h, _, r => by cases h; obtain ⟨t, rfl⟩ := r; exact ⟨_, .int i t⟩
  | .str x, _, _, h, _, r => by cases h; obtain ⟨t, rfl⟩ := r; exact ⟨_, .str x t⟩
  | .tuple ds, _, _, h, hp, r => by
    cases h with
    | tup h a =>
      cases r
      obtain ⟨its, rv, ⟨o, e, c, n, dd⟩, _⟩ := I.tuple h
      obtain ⟨as, q⟩ := reads_ofA I ds _ _ a (by simpa only [PyData.plain] using hp) rv
      exact ⟨_, .tuple e c dd (by simpa using q)⟩
  | .list ds, _, _, h, hp, r => by
    cases h with
    | lst h a =>
      cases r
      obtain ⟨its, rv, ⟨o, n, e, c, dn, dd⟩, _⟩ := I.list (X := X) (.inl (.inr ⟨_, h⟩))
      obtain ⟨as, q⟩ := reads_ofA I ds _ _ a (by simpa only [PyData.plain] using hp) rv
      exact ⟨_, .list e c dd (by simpa using q)⟩
  | .dict _, _, _, _, hp, _ => by simp [PyData.plain] at hp
theorem reads_ofA (I : Inv X pins σ H s) : ∀ (ds : List D) (vs : List V) (us : List Value), DnA X.w X.K H vs ds → PyData.plainAll ds = true → Vals vs us → ∃ as, ReadsAll s.heap us ds as
  | [], _, _, h, _, r => by cases h; cases r; exact ⟨_, .nil⟩
  | d :: ds, _, _, h, hp, r => by
    cases h with
    | cons a b =>
      rw [PyData.plainAll, Bool.and_eq_true] at hp
      cases r with
      | cons r rr =>
        obtain ⟨as, q⟩ := reads_of I d _ _ a hp.1 r
        obtain ⟨bs, q'⟩ := reads_ofA I ds _ _ b hp.2 rr
        exact ⟨_, .cons q q'⟩
end
mutual
theorem nested_of (I : Inv X pins σ H s) : ∀ (d : D) (v : V) (u : Value), Dn X.w X.K H v d → keyd d = true → RelV v u → NestedIs s.heap (nk d) u
  | .none, _, _, _, hp, _ => by simp [keyd] at hp
  | .bool _, _, _, _, hp, _ => by simp [keyd] at hp
  | .list _, _, _, _, hp, _ => by simp [keyd] at hp
  | .dict _, _, _, _, hp, _ => by simp [keyd] at hp
  | .int i, _, _, h, _, r => by cases h; obtain ⟨t, rfl⟩ := r; exact .int i t
  | .str x, _, _, h, _, r => by cases h; obtain ⟨t, rfl⟩ := r; exact .text x t
  | .tuple ds, _, _, h, hp, r => by
    cases h with
    | tup h a =>
      cases r
      obtain ⟨its, rv, ⟨o, e, c, n, dd⟩, _⟩ := I.tuple h
      exact .tup e c dd (by simpa using nested_ofA I ds _ _ a (by simpa only [keyd] using hp) rv)
theorem nested_ofA (I : Inv X pins σ H s) : ∀ (ds : List D) (vs : List V) (us : List Value), DnA X.w X.K H vs ds → keydL ds = true → Vals vs us → NestedAll s.heap (nkL ds) us
  | [], _, _, h, _, r => by cases h; cases r; exact .nil
  | d :: ds, _, _, h, hp, r => by
    cases h with
    | cons a b =>
      rw [keydL, Bool.and_eq_true] at hp
      cases r with
      | cons r rr => exact .cons (nested_of I d _ _ a hp.1 r) (nested_ofA I ds _ _ b hp.2 rr)
end
/-- two data that a value is are one -/
theorem dn_reads (I : Inv X pins σ H s) {v : V} {d d' : D} {u : Value} {as : List Addr} (h : Dn X.w X.K H v d) (hp : d.plain = true) (r : RelV v u) (q : Reads s.heap u d' as) : d = d' := by
  obtain ⟨bs, q'⟩ := reads_of I d v u h hp r
  exact (Reads.unique q' d' as q).1
end
end WM
set_option Elab.async false
set_option linter.all false
set_option maxRecDepth 100000
set_option maxHeartbeats 4000000
/-! WmC: the checker that a text is a piece of syntax. -/
namespace WM
open PySem PySem.Spec PyProof.Rows L2

/-- names by slot, the scope that runs, the scope as written -/
structure CC where
  N : List Str
  sc : Scope
  raw : Scope
abbrev CC.blk (cc : CC) (scope : Scope) : CC := ⟨cc.N, relS scope cc.sc, scope⟩
def plainNm (x : Str) : Bool := !(x == ("__debug__" : Str)) && !(x == ("__classdict__" : Str)) && decide (x ≠ "__name__")
def visB (cc : CC) (x : Str) : Bool := match cc.sc.names.lookup x with | some .local => true | some .cell => true | some .free => true | _ => false
def nmB (cc : CC) (i : Nat) (x : Str) : Bool := decide (cc.N[i]? = some x) && plainNm x && visB cc x
def stB (cc : CC) (i : Nat) (x : Str) : Bool := decide (cc.N[i]? = some x) && (match cc.raw.names.lookup x with | some .local => true | some .cell => true | _ => false)
def glB (cc : CC) (x : Str) : Bool := plainNm x && decide (cc.sc.names.lookup x = some .globalImplicit)
def notStar : Expr → Bool | .Starred _ _ => false | _ => true
def plainTest : Expr → Bool
  | .UnaryOp .Not _ _ => false
  | .BoolOp _ _ _ => false
  | .IfExp _ _ _ _ => false
  | .Compare _ _ _ _ => false
  | _ => true
def notSet : Expr → Bool | .Set _ _ _ => false | _ => true
def notSlice : Expr → Bool | .Slice _ _ _ _ => false | _ => true
def notCall0 : Expr → Bool
  | .Call (.Name _ _) [] [] _ => false
  | _ => true
def notComp : Expr → Bool | .ListComp _ _ _ _ => false | .SetComp _ _ _ _ => false | .DictComp _ _ _ _ _ => false | _ => true
def opOf : BOp → Operator
  | .add => .Add | .sub => .Sub | .mul => .Mult | .fdiv => .FloorDiv | .mod => .Mod | .pow => .Pow
def cmpOf : COp → CmpOp
  | .eq => .Eq | .ne => .NotEq | .lt => .Lt | .le => .LtE | .gt => .Gt | .ge => .GtE | .inn => .In | .nin => .NotIn | .is => .Is | .isn => .IsNot
def fnName : Fn → Str
  | .len => "len" | .min => "min" | .max => "max" | .sum => "sum" | .sorted => "sorted" | .tuple => "tuple" | .list => "list" | .int => "int" | .abs => "abs"
  | .all => "all" | .any => "any" | .sortedSet => "sorted" | .lenSet => "len" | .minVals => "min" | .tupVals => "tuple"
def fn2Name : Fn2 → Str | .min => "min" | .max => "max"
def tyName : Ty → Str | .int => "int" | .bool => "bool" | .str => "str" | .tuple => "tuple" | .list => "list"
def bnames : List Str := ["len", "min", "max", "sum", "sorted", "tuple", "list", "int", "abs", "all", "any", "set", "isinstance", "bool", "str", "range", "zip", "enumerate", "dict"]
def okTg (cc : CC) : Tg → Expr → Bool
  | .nm i, .Name x _ => stB cc i x
  | .tp is, .Tuple es _ _ => okTgs is es
  | _, _ => false
where okTgs : List Nat → List Expr → Bool
  | [], [] => true
  | i :: is, .Name x _ :: es => stB cc i x && okTgs is es
  | _, _ => false
def tgSlots : Tg → List Nat
  | .nm i => [i]
  | .tp is => is
def isTupE : Expr → Bool | .Tuple _ _ _ => true | _ => false
def okTy (cc : CC) : List Ty → Expr → Bool
  | [t], .Name x _ => decide (x = tyName t) && glB cc x
  | _, _ => false
def okTys (cc : CC) : List Ty → List Expr → Bool
  | [], [] => true
  | t :: ts, .Name x _ :: es => decide (x = tyName t) && glB cc x && okTys cc ts es
  | _, _ => false
mutual
def okE (cc : CC) : E → Expr → Bool
  | .var i, .Name x _ => nmB cc i x
  | .glo x _, .Name y _ => decide (x = y) && glB cc y
  | .int i, .Constant (.int j) _ _ => decide (i = j)
  | .str s, .Constant (.str t) _ _ => decide (s = t)
  | .bl b, .Constant (.bool c) _ _ => b == c
  | .non, .Constant .none _ _ => true
  | .tup es, .Tuple as _ _ => decide (as.length ≤ 1000) && okEs cc es as
  | .lst es, .List as _ => decide (as.length ≤ 1000) && okEs cc es as
  | .bin o a b, .BinOp x op y _ => decide (op = opOf o) && okE cc a x && okE cc b y
  | .neg a, .UnaryOp .USub x _ => okE cc a x
  | .cmp o a b, .Compare x [op] [y] _ => decide (op = cmpOf o) && notSet y && okE cc a x && okE cc b y
  | .chn o1 o2 a b c, .Compare x [p1, p2] [y, z] _ => decide (p1 = cmpOf o1) && decide (p2 = cmpOf o2) && notSet y && notSet z && okE cc a x && okE cc b y && okE cc c z
  | .and a b, .BoolOp .And (x :: y :: r) p => okE cc a x && (match r with | [] => okE cc b y | _ :: _ => okAnd cc b (y :: r))
  | .or a b, .BoolOp .Or (x :: y :: r) p => okE cc a x && (match r with | [] => okE cc b y | _ :: _ => okOr cc b (y :: r))
  | .nt a, .UnaryOp .Not x _ => okE cc a x
  | .ite t a b, .IfExp c x y _ => okT cc t c && okE cc a x && okE cc b y
  | .call f _ es, .Call (.Name g _) (a :: as) [] _ => decide (f = g) && glB cc g && okEs cc es (a :: as)
  | .callB f _ i es, .Call (.Name g _) (.Name x _ :: a :: as) [] _ => decide (f = g) && glB cc g && nmB cc i x && okEs cc es (a :: as)
  | .fn f a, .Call (.Name g _) [x] [] _ => decide (g = fnName f) && glB cc g && (match f with
      | .sortedSet => false
      | .lenSet => false
      | .minVals => (match x with | .Call (.Attribute y m ap) [] [] cp => decide (m = "values") && ap.endLine == cp.line && notCall0 y && okE cc a y | _ => false)
      | .tupVals => false
      | _ => notStar x && okE cc a x)
  | .fn2 f a b, .Call (.Name g _) [x, y] [] _ => decide (g = fn2Name f) && glB cc g && notStar x && notStar y && okE cc a x && okE cc b y
  | .max3 a b c, .Call (.Name g _) [x, y, z] [] _ => decide (g = "max") && glB cc g && notStar x && notStar y && notStar z && okE cc a x && okE cc b y && okE cc c z
  | .isi a ts, .Call (.Name g _) [x, y] [] _ => decide (g = "isinstance") && decide (ts.length ≤ 1000) && glB cc g && notStar x && okE cc a x && (match y with | .Tuple es _ _ => okTys cc ts es | _ => okTy cc ts y)
  | .idx a b, .Subscript x y _ => notSlice y && okE cc a x && okE cc b y
  | .cut a lo hi, .Subscript x (.Slice l h none _) _ => okE cc a x && okO cc lo l && okO cc hi h
  | .step a k, .Subscript x (.Slice none none (some st) _) _ => okE cc a x && (match st with
      | .UnaryOp .USub (.Constant (.int j) _ _) _ => j == 1 && k == -1
      | _ => false)
  | .index a b, .Call (.Attribute x m ap) [y] [] cp => decide (m = "index") && ap.endLine == cp.line && notCall0 x && notStar y && okE cc a x && okE cc b y
  | .lc e g it ifs own, .ListComp el [⟨tg, iter, fs, z⟩] scope _ => decide (z = 0) && blkC cc.N cc.sc scope own && notSet iter && okTg (cc.blk scope) g tg && okIt cc it iter (isTupE tg) && okTs (cc.blk scope) ifs fs && okE (cc.blk scope) e el
  | .lc2 e g it g2 it2 ifs2 own own2, .ListComp el [⟨tg, iter, fs, z⟩, ⟨tg2, iter2, fs2, z2⟩] scope _ => decide (z = 0) && decide (z2 = 0) && blkC cc.N cc.sc scope own && notSet iter && notSet iter2 && fs.isEmpty &&
      (own2.all fun i => decide (i ∈ own.map (·.2))) && ((tgSlots g2).all fun i => decide (i ∈ own2)) && okTg (cc.blk scope) g tg && okIt cc it iter (isTupE tg) && okTg (cc.blk scope) g2 tg2 && okIt (cc.blk scope) it2 iter2 (isTupE tg2) && okTs (cc.blk scope) ifs2 fs2 && okE (cc.blk scope) e el
  | .dc k v g it own, .DictComp kx vx [⟨tg, iter, fs, z⟩] scope _ => decide (z = 0) && blkC cc.N cc.sc scope own && notSet iter && fs.isEmpty && okTg (cc.blk scope) g tg && okIt cc it iter (isTupE tg) && okE (cc.blk scope) k kx && okE (cc.blk scope) v vx
  | .oIdx i b, .Subscript (.Name x _) y _ => nmB cc i x && notSlice y && okE cc b y
  | .oIn neg a i, .Compare x [op] [.Name y _] _ => decide (op = if neg then .NotIn else .In) && nmB cc i y && okE cc a x
  | .oGet i k d, .Call (.Attribute (.Name x _) m ap) [y, z] [] cp => decide (m = "get") && ap.endLine == cp.line && notStar y && notStar z && nmB cc i x && okE cc k y && okE cc d z
  | .oLen i, .Call (.Name g _) [.Name x _] [] _ => decide (g = "len") && glB cc g && nmB cc i x
  | .oCmp o i b, .Compare (.Name x _) [op] [y] _ => decide (o = .eq ∨ o = .ne) && decide (op = cmpOf o) && notSet y && nmB cc i x && okE cc b y
  | _, _ => false
/-- the rest of an 'and' (a value) -/
def okAnd (cc : CC) : E → List Expr → Bool
  | .and a b, x :: y :: r => okE cc a x && (match r with | [] => okE cc b y | _ :: _ => okAnd cc b (y :: r))
  | _, _ => false
def okOr (cc : CC) : E → List Expr → Bool
  | .or a b, x :: y :: r => okE cc a x && (match r with | [] => okE cc b y | _ :: _ => okOr cc b (y :: r))
  | _, _ => false
def okEs (cc : CC) : Es → List Expr → Bool
  | .nil, [] => true
  | .cons e es, a :: as => notStar a && okE cc e a && okEs cc es as
  | _, _ => false
def okO (cc : CC) : OE → Option Expr → Bool
  | .no, none => true
  | .yes e, some a => okE cc e a
  | _, _ => false
def okT (cc : CC) : T → Expr → Bool
  | .and a b, .BoolOp .And (x :: y :: r) p => okT cc a x && (match r with | [] => okT cc b y | _ :: _ => okTAnd cc b (y :: r))
  | .or a b, .BoolOp .Or (x :: y :: r) p => okT cc a x && (match r with | [] => okT cc b y | _ :: _ => okTOr cc b (y :: r))
  | .not a, .UnaryOp .Not x _ => okT cc a x
  | .val e, a => (plainTest a || (match a with | .Compare _ _ [_] _ => true | .Compare _ _ [_, _] _ => true | _ => false)) && okE cc e a
  | _, _ => false
def okTAnd (cc : CC) : T → List Expr → Bool
  | .and a b, x :: y :: r => okT cc a x && (match r with | [] => okT cc b y | _ :: _ => okTAnd cc b (y :: r))
  | _, _ => false
def okTOr (cc : CC) : T → List Expr → Bool
  | .or a b, x :: y :: r => okT cc a x && (match r with | [] => okT cc b y | _ :: _ => okTOr cc b (y :: r))
  | _, _ => false
def okTs (cc : CC) : Ts → List Expr → Bool
  | .nil, [] => true
  | .one t, [a] => okT cc t a
  | _, _ => false
def okIt (cc : CC) : It → Expr → Bool → Bool
  | .seq e, a, _ => okE cc e a
  | .rng a, .Call (.Name g _) [x] [] _, _ => decide (g = "range") && glB cc g && notStar x && okE cc a x
  | .rng2 a b, .Call (.Name g _) [x, y] [] _, _ => decide (g = "range") && glB cc g && notStar x && notStar y && okE cc a x && okE cc b y
  | .zip a b, .Call (.Name g _) [x, y] [] _, tp => decide (g = "zip") && glB cc g && notStar x && notStar y && tp && okE cc a x && okE cc b y
  | .enum a, .Call (.Name g _) [x] [] _, tp => decide (g = "enumerate") && glB cc g && notStar x && tp && okE cc a x
  | _, _, _ => false
end
/-- [name = comprehension] on one line, the name a local: stored by the comprehension itself -/
def swapB (cc : CC) (v : Expr) (x : Str) (line : Nat) : Bool :=
  (match cc.sc.kind with | .function => true | _ => false) && decide (cc.sc.names.lookup x = some .local) && match v with
  | .ListComp _ _ sc p => line == p.line && !(sc.names.any fun (n, k) => n == x && (k == .local || k == .cell))
  | .DictComp _ _ _ sc p => line == p.line && !(sc.names.any fun (n, k) => n == x && (k == .local || k == .cell))
  | _ => false
/-- the names that are stored from the right -/
def parB (cc : CC) (ts vs : List Expr) : Option (Option (List Str)) :=
  if (!(match cc.sc.kind with | .function => true | _ => false)) = true then none
  else if (!(ts.length == 2 || ts.length == 3) || vs.length != ts.length) = true then some none
  else if (vs.any fun | .Starred .. => true | _ => false) = true then some none
  else
    let line := (ts.head?.map (·.pos.line)).getD 0
    let names := ts.filterMap fun
      | .Name id pos => if cc.sc.names.lookup id == some .local && pos.line == line then some id else none
      | _ => none
    if (names.length != ts.length || names.eraseDups.length != names.length) = true then some none
    else if vs.all (foldedForSure 8) = true then some none
    else if vs.all (constantsAlone 8) = true then none
    else some (some names)
def isLocalB (cc : CC) : Expr → Bool
  | .Name id _ => decide (cc.sc.names.lookup id = some .local)
  | _ => false
def nameOf : Expr → Str
  | .Name id _ => id
  | _ => ""
mutual
def okS (cc : CC) : S → Stmt → Bool
  | .asg i e, .Assign [.Name x _] v _ => stB cc i x && notComp v && okE cc e v
  | .asgO i e, .Assign [.Name x _] v _ => stB cc i x && okE cc e v && (match cc.sc.kind with | .function => true | _ => false) && (match e with
      | .lst _ => true
      | .lc .. => true
      | .lc2 .. => true
      | .dc .. => true
      | _ => false)
  | .asgD i, .Assign [.Name x _] (.Dict [] [] _) _ => stB cc i x
  | .asgT is e, .Assign [.Tuple ts k p] v _ => okTg.okTgs cc is ts && okE cc e v && notComp v && (match v with | .Tuple vs _ _ => decide (parB cc ts vs = some none) | _ => true)
  | .par is es, .Assign [.Tuple ts k p] (.Tuple vs _ _) _ => okTg.okTgs cc is ts && okEs cc es vs && decide (vs.length = ts.length) && ts.all (isLocalB cc) && decide (parB cc ts vs = some (some (ts.map nameOf))) && decide is.Nodup
  | .app i e, .Expr (.Call (.Attribute (.Name x _) m ap) [y] [] cp) _ => nmB cc i x && decide (m = "append") && ap.endLine == cp.line && notStar y && okE cc e y
  | .put i k v, .Assign [.Subscript (.Name x _) y _] z _ => nmB cc i x && notSlice y && notComp z && okE cc k y && okE cc v z
  | .setB i j e, .Assign [.Subscript (.Name x _) y _] z _ => nmB cc i x && notSlice y && notComp z && okE cc j y && okE cc e z
  | .ret e, .Return (some v) _ => okE cc e v
  | .ite t a b, .If c x y _ => okT cc t c && okSs cc a x && okSs cc b y
  | .loop g it b _, .For tg iter body [] _ => notSet iter && okTg cc g tg && okIt cc it iter (isTupE tg) && okSs cc b body
  | .exp e, .Expr v _ => notComp v && okE cc e v
  | .never, _ => true
  | _, _ => false
def okSs (cc : CC) : Ss → List Stmt → Bool
  | .nil, [] => true
  | .cons s r, x :: xs => okS cc s x && okSs cc r xs
  | _, _ => false
end
/-! what is asked of the defs and constants that a text names -/
mutual
def wfE (PF : Str → FP → Prop) (PB : Str → FB → Prop) (PG : Str → D → Prop) : E → Prop
  | .glo x d => PG x d
  | .tup es => wfEs PF PB PG es
  | .lst es => wfEs PF PB PG es
  | .bin _ a b => wfE PF PB PG a ∧ wfE PF PB PG b
  | .neg a => wfE PF PB PG a
  | .cmp _ a b => wfE PF PB PG a ∧ wfE PF PB PG b
  | .chn _ _ a b c => wfE PF PB PG a ∧ wfE PF PB PG b ∧ wfE PF PB PG c
  | .and a b => wfE PF PB PG a ∧ wfE PF PB PG b
  | .or a b => wfE PF PB PG a ∧ wfE PF PB PG b
  | .nt a => wfE PF PB PG a
  | .ite t a b => wfT PF PB PG t ∧ wfE PF PB PG a ∧ wfE PF PB PG b
  | .call f F es => PF f F ∧ wfEs PF PB PG es
  | .callB f F _ es => PB f F ∧ wfEs PF PB PG es
  | .fn _ a => wfE PF PB PG a
  | .fn2 _ a b => wfE PF PB PG a ∧ wfE PF PB PG b
  | .max3 a b c => wfE PF PB PG a ∧ wfE PF PB PG b ∧ wfE PF PB PG c
  | .isi a _ => wfE PF PB PG a
  | .idx a b => wfE PF PB PG a ∧ wfE PF PB PG b
  | .cut a lo hi => wfE PF PB PG a ∧ wfO PF PB PG lo ∧ wfO PF PB PG hi
  | .step a _ => wfE PF PB PG a
  | .index a b => wfE PF PB PG a ∧ wfE PF PB PG b
  | .lc e _ it ifs _ => wfIt PF PB PG it ∧ wfTs PF PB PG ifs ∧ wfE PF PB PG e
  | .lc2 e _ it _ it2 ifs2 _ _ => wfIt PF PB PG it ∧ wfIt PF PB PG it2 ∧ wfTs PF PB PG ifs2 ∧ wfE PF PB PG e
  | .dc k v _ it _ => wfIt PF PB PG it ∧ wfE PF PB PG k ∧ wfE PF PB PG v
  | .oIdx _ b => wfE PF PB PG b
  | .oIn _ a _ => wfE PF PB PG a
  | .oGet _ k x => wfE PF PB PG k ∧ wfE PF PB PG x
  | .oCmp _ _ b => wfE PF PB PG b
  | .sortK a => wfE PF PB PG a
  | _ => True
def wfEs (PF : Str → FP → Prop) (PB : Str → FB → Prop) (PG : Str → D → Prop) : Es → Prop
  | .nil => True
  | .cons e es => wfE PF PB PG e ∧ wfEs PF PB PG es
def wfO (PF : Str → FP → Prop) (PB : Str → FB → Prop) (PG : Str → D → Prop) : OE → Prop
  | .no => True
  | .yes e => wfE PF PB PG e
def wfT (PF : Str → FP → Prop) (PB : Str → FB → Prop) (PG : Str → D → Prop) : T → Prop
  | .val e => wfE PF PB PG e
  | .and a b => wfT PF PB PG a ∧ wfT PF PB PG b
  | .or a b => wfT PF PB PG a ∧ wfT PF PB PG b
  | .not a => wfT PF PB PG a
def wfTs (PF : Str → FP → Prop) (PB : Str → FB → Prop) (PG : Str → D → Prop) : Ts → Prop
  | .nil => True
  | .one t => wfT PF PB PG t
def wfIt (PF : Str → FP → Prop) (PB : Str → FB → Prop) (PG : Str → D → Prop) : It → Prop
  | .seq e => wfE PF PB PG e
  | .rng a => wfE PF PB PG a
  | .rng2 a b => wfE PF PB PG a ∧ wfE PF PB PG b
  | .zip a b => wfE PF PB PG a ∧ wfE PF PB PG b
  | .enum a => wfE PF PB PG a
end
mutual
def wfS (PF : Str → FP → Prop) (PB : Str → FB → Prop) (PG : Str → D → Prop) : S → Prop
  | .asg _ e => wfE PF PB PG e
  | .asgO _ e => wfE PF PB PG e
  | .asgD _ => True
  | .asgT _ e => wfE PF PB PG e
  | .par _ es => wfEs PF PB PG es
  | .app _ e => wfE PF PB PG e
  | .put _ k v => wfE PF PB PG k ∧ wfE PF PB PG v
  | .setB _ j e => wfE PF PB PG j ∧ wfE PF PB PG e
  | .ret e => wfE PF PB PG e
  | .ite t a b => wfT PF PB PG t ∧ wfSs PF PB PG a ∧ wfSs PF PB PG b
  | .loop _ it b _ => wfIt PF PB PG it ∧ wfSs PF PB PG b
  | .exp e => wfE PF PB PG e
  | .never => True
def wfSs (PF : Str → FP → Prop) (PB : Str → FB → Prop) (PG : Str → D → Prop) : Ss → Prop
  | .nil => True
  | .cons s r => wfS PF PB PG s ∧ wfSs PF PB PG r
end
end WM
set_option Elab.async false
set_option linter.all false
set_option maxRecDepth 100000
set_option maxHeartbeats 4000000
/-! WmD: slots and their contents; expressions keep the evaluator's word. -/
namespace WM
open PySem PySem.Spec PyProof.Rows L2

section
variable (X : Cx)
abbrev Dx (H : Hp) (v : V) (d : D) : Prop := Dn X.w X.K H v d
abbrev Dxs (H : Hp) (v : List V) (d : List D) : Prop := DnA X.w X.K H v d
def SlotR (H : Hp) : SV → Option (Option V) → Prop
  | .un, _ => True
  | .d x, o => ∃ v, o = some (some v) ∧ Dx X H v x
  | .ol xs, o => ∃ a vs, o = some (some (.ref a)) ∧ H a = some (.lst vs) ∧ Dxs X H vs xs
  | .bo xs, o => ∃ a vs, o = some (some (.ref a)) ∧ H a = some (.lst vs) ∧ Dxs X H vs xs
  | .od kvs, o => ∃ a es, o = some (some (.ref a)) ∧ H a = some (DX a es) ∧ DnE X.w X.K H es.toList kvs ∧ KOk kvs
def isNew : Option SV → Bool
  | some (.ol _) => true
  | some (.od _) => true
  | _ => false
def isBo : Option SV → Bool
  | some (.bo _) => true
  | _ => false
/-- the slots ρ, by values σ and the heap H. G: the heap at the entry; bg: the list that was lent -/
structure Rel (G : Hp) (bg : Option Addr) (ρ : Env) (σ : L2.St) (H : Hp) : Prop where
  len : ρ.length = σ.length
  at_ : ∀ (i : Nat) (sv : SV), ρ[i]? = some sv → SlotR X H sv σ[i]?
  apart : ∀ (i j : Nat) (a : Addr), isOwn ρ[i]? = true → isOwn ρ[j]? = true → σ[i]? = some (some (.ref a)) → σ[j]? = some (some (.ref a)) → i = j
  fresh : ∀ (i : Nat) (a : Addr), isNew ρ[i]? = true → σ[i]? = some (some (.ref a)) → G a = none
  lent : ∀ (i : Nat) (a : Addr), isBo ρ[i]? = true → σ[i]? = some (some (.ref a)) → bg = some a
  frame : ∀ b o, G b = some o → bg ≠ some b → H b = some o
  there : ∀ a, bg = some a → ∃ vs, H a = some (.lst vs)
  bgG : ∀ a, bg = some a → G a ≠ none
end
section
variable {X : Cx} {G : Hp} {bg : Option Addr} {ρ ρ' : Env} {σ : L2.St} {H H' : Hp}
theorem Rel.new (R : Rel X G bg ρ σ H) {p : Addr} (h : H p = none) : G p = none := by
  cases e : G p with
  | none => rfl
  | some o =>
    by_cases hb : bg = some p
    · obtain ⟨vs, q⟩ := R.there p hb
      rw [h] at q; cases q
    · have := R.frame p o e hb
      rw [h] at this; cases this
theorem SlotR.mono {sv : SV} {o : Option (Option V)} (e : Ext H H') (k : ∀ a, isOwn (some sv) = true → o = some (some (.ref a)) → H' a = H a) (h : SlotR X H sv o) : SlotR X H' sv o := by
  cases sv with
  | un => exact True.intro
  | d x => obtain ⟨v, q, r⟩ := h; exact ⟨v, q, r.ext e⟩
  | ol xs => obtain ⟨a, vs, q, r, t⟩ := h; exact ⟨a, vs, q, by rw [k a rfl q]; exact r, t.ext e⟩
  | bo xs => obtain ⟨a, vs, q, r, t⟩ := h; exact ⟨a, vs, q, by rw [k a rfl q]; exact r, t.ext e⟩
  | od xs => obtain ⟨a, vs, q, r, t, u⟩ := h; exact ⟨a, vs, q, by rw [k a rfl q]; exact r, t.ext e, u⟩
/-- what is tracked stays: so do the slots -/
theorem Rel.keep (R : Rel X G bg ρ σ H) (k : ∀ b o, H b = some o → H' b = some o) : Rel X G bg ρ σ H' where
  len := R.len
  at_ := fun i sv e => (R.at_ i sv e).mono (Ext.same k) fun a ho q => by
    have h := R.at_ i sv e
    cases sv with
    | un => cases ho
    | d x => cases ho
    | ol xs => obtain ⟨a', vs, q', r, t⟩ := h; rw [q] at q'; cases q'; rw [r]; exact k _ _ r
    | bo xs => obtain ⟨a', vs, q', r, t⟩ := h; rw [q] at q'; cases q'; rw [r]; exact k _ _ r
    | od xs => obtain ⟨a', vs, q', r, t, u⟩ := h; rw [q] at q'; cases q'; rw [r]; exact k _ _ r
  apart := R.apart
  fresh := R.fresh
  lent := R.lent
  frame := fun b o e hb => k b o (R.frame b o e hb)
  there := fun a h => let ⟨vs, q⟩ := R.there a h; ⟨vs, k _ _ q⟩
  bgG := R.bgG
theorem same_upd {H : Hp} {p : Addr} {o : HO} (h : H p = none) : ∀ b x, H b = some x → upd H p o b = some x := fun b x e => by
  rw [upd_ne (ne_of_none e h)]; exact e
theorem Rel.laid (R : Rel X G bg ρ σ H) {p : Addr} {o : HO} (h : H p = none) : Rel X G bg ρ σ (upd H p o) := R.keep (same_upd h)
/-- an address of an own slot -/
theorem Rel.own_at (R : Rel X G bg ρ σ H) {i : Nat} (h : isOwn ρ[i]? = true) : ∃ a o, σ[i]? = some (some (.ref a)) ∧ H a = some o ∧ Mut (some o) := by
  cases e : ρ[i]? with
  | none => rw [e] at h; cases h
  | some sv =>
    rw [e] at h
    have q := R.at_ i sv e
    cases sv with
    | un => cases h
    | d x => cases h
    | ol xs => obtain ⟨a, vs, q', r, t⟩ := q; exact ⟨a, _, q', r, True.intro⟩
    | bo xs => obtain ⟨a, vs, q', r, t⟩ := q; exact ⟨a, _, q', r, True.intro⟩
    | od xs => obtain ⟨a, vs, q', r, t, u⟩ := q; exact ⟨a, _, q', r, True.intro⟩
/-- a slot loses what it says -/
theorem getElem?_set_cases {α : Type} (l : List α) (i j : Nat) (x : α) : (l.set i x)[j]? = if i = j ∧ i < l.length then some x else l[j]? := by
  by_cases h : i = j
  · subst h
    by_cases hl : i < l.length
    · rw [List.getElem?_set_self hl, if_pos ⟨rfl, hl⟩]
    · rw [if_neg (fun q => hl q.2), List.set_eq_of_length_le (Nat.le_of_not_lt hl)]
  · rw [List.getElem?_set_ne h, if_neg (fun q => h q.1)]
/-- a slot's content is said otherwise: the value and the heap stay -/
theorem Rel.reset (R : Rel X G bg ρ σ H) (i : Nat) (sv : SV) (h : i < ρ.length → SlotR X H sv σ[i]?) (ho : isOwn (some sv) = true → isOwn ρ[i]? = true) (hn : isNew (some sv) = true → isNew ρ[i]? = true) (hb : isBo (some sv) = true → isBo ρ[i]? = true) :
    Rel X G bg (ρ.set i sv) σ H := by
  have own : ∀ k, isOwn (ρ.set i sv)[k]? = true → isOwn ρ[k]? = true := fun k hk => by
    rw [getElem?_set_cases] at hk
    split at hk
    · rename_i q; obtain ⟨rfl, _⟩ := q; exact ho hk
    · exact hk
  refine ⟨by rw [List.length_set]; exact R.len, fun k s e => ?_, fun k l a hk hl => R.apart k l a (own k hk) (own l hl), fun k a hk => R.fresh k a ?_, fun k a hk => R.lent k a ?_, R.frame, R.there, R.bgG⟩
  · rw [getElem?_set_cases] at e
    split at e
    · rename_i q
      obtain ⟨rfl, q⟩ := q
      cases e
      exact h q
    · exact R.at_ k s e
  · rw [getElem?_set_cases] at hk
    split at hk
    · rename_i q; obtain ⟨rfl, _⟩ := q; exact hn hk
    · exact hk
  · rw [getElem?_set_cases] at hk
    split at hk
    · rename_i q; obtain ⟨rfl, _⟩ := q; exact hb hk
    · exact hk
theorem Rel.forget (R : Rel X G bg ρ σ H) (i : Nat) : Rel X G bg (ρ.set i .un) σ H := R.reset i .un (fun _ => True.intro) (fun h => nomatch h) (fun h => nomatch h) (fun h => nomatch h)
theorem Rel.wipe (R : Rel X G bg ρ σ H) : ∀ is : List Nat, Rel X G bg (wipeE ρ is) σ H
  | [] => R
  | i :: is => (R.wipe is).forget i
theorem wipeE_length (ρ : Env) : ∀ is : List Nat, (wipeE ρ is).length = ρ.length
  | [] => rfl
  | i :: is => by rw [wipeE, List.length_set, wipeE_length ρ is]
/-- a name is given a value that is data -/
theorem Rel.store (R : Rel X G bg ρ σ H) (i : Nat) {v : V} {x : D} (h : Dx X H v x) : Rel X G bg (ρ.set i (.d x)) (σ.set i (some v)) H := by
  have hl := R.len
  have own : ∀ k, isOwn (ρ.set i (.d x))[k]? = true → isOwn ρ[k]? = true ∧ (σ.set i (some v))[k]? = σ[k]? := fun k hk => by
    rw [getElem?_set_cases] at hk
    split at hk
    · cases hk
    · rename_i q
      refine ⟨hk, ?_⟩
      rw [getElem?_set_cases, if_neg (by rw [← hl]; exact q)]
  have ownN : ∀ k, isNew (ρ.set i (.d x))[k]? = true → isNew ρ[k]? = true ∧ (σ.set i (some v))[k]? = σ[k]? := fun k hk => by
    rw [getElem?_set_cases] at hk
    split at hk
    · cases hk
    · rename_i q
      refine ⟨hk, ?_⟩
      rw [getElem?_set_cases, if_neg (by rw [← hl]; exact q)]
  have ownB : ∀ k, isBo (ρ.set i (.d x))[k]? = true → isBo ρ[k]? = true ∧ (σ.set i (some v))[k]? = σ[k]? := fun k hk => by
    rw [getElem?_set_cases] at hk
    split at hk
    · cases hk
    · rename_i q
      refine ⟨hk, ?_⟩
      rw [getElem?_set_cases, if_neg (by rw [← hl]; exact q)]
  refine ⟨by rw [List.length_set, List.length_set]; exact hl, fun k s e => ?_, fun k l a hk hl' e1 e2 => ?_, fun k a hk e => ?_, fun k a hk e => ?_, R.frame, R.there, R.bgG⟩
  · rw [getElem?_set_cases] at e ⊢
    rw [← hl]
    split at e
    · rename_i q
      rw [if_pos q]
      cases e
      exact ⟨v, rfl, h⟩
    · rename_i q
      rw [if_neg q]
      exact R.at_ k s e
  · obtain ⟨a1, a2⟩ := own k hk
    obtain ⟨b1, b2⟩ := own l hl'
    rw [a2] at e1; rw [b2] at e2
    exact R.apart k l a a1 b1 e1 e2
  · obtain ⟨a1, a2⟩ := ownN k hk
    rw [a2] at e
    exact R.fresh k a a1 e
  · obtain ⟨a1, a2⟩ := ownB k hk
    rw [a2] at e
    exact R.lent k a a1 e
/-- one own object is written (all else stays), its slot says so -/
theorem Rel.write (R : Rel X G bg ρ σ H) {i : Nat} {a : Addr} {sv : SV} (hi : isOwn ρ[i]? = true) (ha : σ[i]? = some (some (.ref a))) (e : Ext H H') (k : ∀ b o, b ≠ a → H b = some o → H' b = some o)
    (new : SlotR X H' sv (some (some (.ref a)))) (hn : isNew (some sv) = true → isNew ρ[i]? = true) (hb : isBo (some sv) = true → isBo ρ[i]? = true) (ht : bg = some a → ∃ vs, H' a = some (.lst vs)) : Rel X G bg (ρ.set i sv) σ H' := by
  have own : ∀ k, isOwn (ρ.set i sv)[k]? = true → isOwn ρ[k]? = true := fun k hk => by
    rw [getElem?_set_cases] at hk
    split at hk
    · rename_i q; obtain ⟨rfl, _⟩ := q; exact hi
    · exact hk
  have hga : bg = some a ∨ G a = none := by
    have hc : isNew ρ[i]? = true ∨ isBo ρ[i]? = true := by
      cases q : ρ[i]? with
      | none => rw [q] at hi; cases hi
      | some s => rw [q] at hi; cases s <;> first | exact .inl rfl | exact .inr rfl | cases hi
    rcases hc with q | q
    · exact .inr (R.fresh i a q ha)
    · exact .inl (R.lent i a q ha)
  refine ⟨by rw [List.length_set]; exact R.len, fun j s ej => ?_, fun j l c hk hl => R.apart j l c (own j hk) (own l hl), fun j c hk => R.fresh j c ?_, fun j c hk => R.lent j c ?_, fun b o eb hbb => ?_, fun c hc => ?_, R.bgG⟩
  · rw [getElem?_set_cases] at ej
    split at ej
    · rename_i q
      obtain ⟨rfl, q⟩ := q
      cases ej
      rw [ha]; exact new
    · rename_i q
      refine (R.at_ j s ej).mono e fun c hc hj => ?_
      have hjo : isOwn ρ[j]? = true := by rw [ej]; exact hc
      have hca : c ≠ a := fun z => by
        subst z
        have := R.apart i j c hi hjo ha hj
        subst this
        refine q ⟨rfl, ?_⟩
        cases z : ρ[i]? with
        | none => rw [z] at hi; cases hi
        | some _ => exact (List.getElem?_eq_some_iff.mp z).1
      obtain ⟨c', o, h1, h2, _⟩ := R.own_at hjo
      rw [hj] at h1; cases h1
      rw [h2]; exact k c o hca h2
  · rw [getElem?_set_cases] at hk
    split at hk
    · rename_i q; obtain ⟨rfl, _⟩ := q; exact hn hk
    · exact hk
  · rw [getElem?_set_cases] at hk
    split at hk
    · rename_i q; obtain ⟨rfl, _⟩ := q; exact hb hk
    · exact hk
  · have hba : b ≠ a := fun z => by
      subst z
      rcases hga with z | z
      · exact hbb z
      · rw [z] at eb; cases eb
    exact k b o hba (R.frame b o eb hbb)
  · by_cases hca : c = a
    · subst hca; exact ht hc
    · obtain ⟨vs, q⟩ := R.there c hc
      exact ⟨vs, k c _ hca q⟩
/-- an object that no slot owns is written -/
theorem Rel.other (R : Rel X G bg ρ σ H) {a : Addr} (hG : G a = none) (ho : ∀ i : Nat, isOwn ρ[i]? = true → σ[i]? ≠ some (some (.ref a))) (e : Ext H H') (k : ∀ b o, b ≠ a → H b = some o → H' b = some o) : Rel X G bg ρ σ H' := by
  refine ⟨R.len, fun j s ej => ?_, R.apart, R.fresh, R.lent, fun b o eb hbb => k b o (fun z => by subst z; rw [hG] at eb; cases eb) (R.frame b o eb hbb), fun c hc => ?_, R.bgG⟩
  · refine (R.at_ j s ej).mono e fun c hc hj => ?_
    have hjo : isOwn ρ[j]? = true := by rw [ej]; exact hc
    obtain ⟨c', o, h1, h2, _⟩ := R.own_at hjo
    rw [hj] at h1; cases h1
    rw [h2]
    exact k c o (fun z => ho j hjo (by rw [hj, z])) h2
  · obtain ⟨vs, q⟩ := R.there c hc
    exact ⟨vs, k c _ (fun z => by subst z; exact R.bgG c hc hG) q⟩
/-- a fresh object that no slot owns is given to a name -/
theorem Rel.give (R : Rel X G bg ρ σ H) (i : Nat) {a : Addr} {sv : SV} (hG : G a = none) (ho : ∀ i : Nat, isOwn ρ[i]? = true → σ[i]? ≠ some (some (.ref a))) (new : SlotR X H sv (some (some (.ref a)))) (hb : isBo (some sv) = false) :
    Rel X G bg (ρ.set i sv) (σ.set i (some (.ref a))) H := by
  have hl := R.len
  have old : ∀ k, k ≠ i → (ρ.set i sv)[k]? = ρ[k]? ∧ (σ.set i (some (.ref a)))[k]? = σ[k]? := fun k hk => by
    rw [getElem?_set_cases, getElem?_set_cases, if_neg (fun q => hk q.1.symm), if_neg (fun q => hk q.1.symm)]
    exact ⟨rfl, rfl⟩
  have oob : ¬ i < ρ.length → ρ.set i sv = ρ ∧ σ.set i (some (.ref a)) = σ := fun h => ⟨List.set_eq_of_length_le (Nat.le_of_not_lt h), List.set_eq_of_length_le (by rw [← hl]; exact Nat.le_of_not_lt h)⟩
  by_cases hi : i < ρ.length
  · have at1 : (ρ.set i sv)[i]? = some sv := List.getElem?_set_self hi
    have at2 : (σ.set i (some (.ref a)))[i]? = some (some (.ref a)) := List.getElem?_set_self (by rw [← hl]; exact hi)
    refine ⟨by rw [List.length_set, List.length_set]; exact hl, fun k s e => ?_, fun k l c hk hl' e1 e2 => ?_, fun k c hk e => ?_, fun k c hk e => ?_, R.frame, R.there, R.bgG⟩
    · by_cases q : k = i
      · subst q; rw [at1] at e; cases e; rw [at2]; exact new
      · rw [(old k q).1] at e; rw [(old k q).2]; exact R.at_ k s e
    · by_cases q : k = i
      · by_cases q' : l = i
        · rw [q, q']
        · subst q
          rw [at2] at e1
          rw [(old l q').2, ← e1] at e2
          rw [(old l q').1] at hl'
          cases e1
          exact absurd e2 (ho l hl')
      · by_cases q' : l = i
        · subst q'
          rw [at2] at e2
          rw [(old k q).2, ← e2] at e1
          rw [(old k q).1] at hk
          cases e2
          exact absurd e1 (ho k hk)
        · rw [(old k q).1] at hk; rw [(old k q).2] at e1; rw [(old l q').1] at hl'; rw [(old l q').2] at e2
          exact R.apart k l c hk hl' e1 e2
    · by_cases q : k = i
      · subst q; rw [at2] at e; cases e; exact hG
      · rw [(old k q).1] at hk; rw [(old k q).2] at e; exact R.fresh k c hk e
    · by_cases q : k = i
      · subst q; rw [at1, hb] at hk; cases hk
      · rw [(old k q).1] at hk; rw [(old k q).2] at e; exact R.lent k c hk e
  · rw [(oob hi).1, (oob hi).2]; exact R
end
end WM
set_option Elab.async false
set_option linter.all false
set_option maxRecDepth 100000
set_option maxHeartbeats 4000000
/-! WmE: the readings of expressions. -/
namespace WM
open PySem PySem.Spec PyProof.Rows L2

structure OkX (cc : CC) (X : Cx) (lv : Nat) : Prop where
  n : X.N = cc.N
  sc : X.env.scope = cc.sc
  nd : X.N.Nodup
  calm : X.calm = true
  xe : X.xe = fun _ _ => False
  room : Room lv X.A
  st : ∀ x : Str, (match cc.raw.names.lookup x with | some .local => true | some .cell => true | _ => false) = true → Loc X.env.scope x ∧ (X.fn x = true ∨ X.env.scope.names.lookup x = some .local)
  blt : ∀ x ∈ bnames, X.mg x = none
section
variable {cc : CC} {X : Cx} {lv : Nat}
theorem OkX.vis (o : OkX cc X lv) {x : Str} (h : visB cc x = true) : Vis X.env.scope x := by
  unfold visB at h
  rw [← o.sc] at h
  unfold Vis
  split at h
  · rename_i q; exact .inl q
  · rename_i q; exact .inr (.inl q)
  · rename_i q; exact .inr (.inr q)
  · cases h
theorem nm_parts {cc : CC} {x : Str} (h : plainNm x = true) : (x == ("__debug__" : Str)) = false ∧ (x == ("__classdict__" : Str)) = false ∧ x ≠ "__name__" := by
  unfold plainNm at h
  simp only [Bool.and_eq_true, Bool.not_eq_true', decide_eq_true_eq] at h
  exact ⟨h.1.1, h.1.2, h.2⟩
theorem OkX.gl (o : OkX cc X lv) {x : Str} (h : glB cc x = true) : Gl X x := by
  unfold glB at h
  simp only [Bool.and_eq_true, decide_eq_true_eq] at h
  show X.env.scope.names.lookup x = _
  rw [o.sc]; exact h.2
theorem gl_plain {cc : CC} {x : Str} (h : glB cc x = true) : plainNm x = true := by
  unfold glB at h
  rw [Bool.and_eq_true] at h; exact h.1
theorem OkX.block (o : OkX cc X lv) {s : Shared} {H : Hp} {scope : Scope} {C : Addr} {cl : List (Str × Addr)} {fp : List Addr} : OkX (cc.blk scope) (X.blk s H scope (compEnvC scope cl C X.env) fp) lv where
  n := o.n
  sc := by show relS scope X.env.scope = _; rw [o.sc]
  nd := o.nd
  calm := o.calm
  xe := rfl
  room := o.room
  st := fun x h => by
    have h : (match scope.names.lookup x with | some .local => true | some .cell => true | _ => false) = true := h
    split at h
    · rename_i q
      have := lookup_relS_keep (sc := X.env.scope) (k := .local) (by decide) q
      exact ⟨.inl this, .inr this⟩
    · rename_i q
      have := lookup_relS_keep (sc := X.env.scope) (k := .cell) (by decide) q
      refine ⟨.inr this, .inl ?_⟩
      show (scope.names.lookup x == some .cell) = true
      rw [q]; rfl
    · cases h
  blt := o.blt
end

theorem _root_.L2.PE.mono {X : Cx} {e : Expr} {t t' : TE} (h : PE X e t) (m : ∀ σ H Q, t' σ H Q → t σ H Q) : PE X e t' := ⟨fun pins s σ H Q I hw => h.run pins s σ H Q I (m _ _ _ hw)⟩
theorem _root_.L2.PT.mono {X : Cx} {e : Expr} {t t' : TT} (h : PT X e t) (m : ∀ σ H Q, t' σ H Q → t σ H Q) : PT X e t' := ⟨fun pins s σ H Q I hw => h.run pins s σ H Q I (m _ _ _ hw)⟩
theorem _root_.L2.PW.mono {X : Cx} {e : Expr} {t t' : TT} (h : PW X e t) (m : ∀ σ H Q, t' σ H Q → t σ H Q) : PW X e t' := ⟨fun wh pins s σ H Q I hw => h.run wh pins s σ H Q I (m _ _ _ hw)⟩
theorem _root_.L2.PA.mono {X : Cx} {e : List Expr} {t t' : TA} (h : PA X e t) (m : ∀ σ H Q, t' σ H Q → t σ H Q) : PA X e t' := ⟨fun pos pins s σ H Q I hw => h.run pos pins s σ H Q I (m _ _ _ hw)⟩
theorem _root_.L2.PI.mono {X : Cx} {tg e : Expr} {t t' : TI} (h : PI X tg e t) (m : ∀ σ H R, t' σ H R → t σ H R) : PI X tg e t' := ⟨fun pins s σ H R I hw => h.run pins s σ H R I (m _ _ _ hw)⟩
theorem _root_.L2.PS.mono {X : Cx} {e : Stmt} {t t' : TS} (h : PS X e t) (m : ∀ D σ H, t' D σ H → t D σ H) : PS X e t' := ⟨fun pins s σ H D I hw => h.run pins s σ H D I (m _ _ _ hw)⟩
theorem _root_.L2.PSs.mono {X : Cx} {e : List Stmt} {t t' : TS} (h : PSs X e t) (m : ∀ D σ H, t' D σ H → t D σ H) : PSs X e t' := ⟨fun pins s σ H D I hw => h.run pins s σ H D I (m _ _ _ hw)⟩

section
variable (X : Cx) (G : Hp) (bg : Option Addr)
/-- an expression: from the slots ρ the datum d, the slots then ρ' -/
def tS (ρ : Env) (d : D) (ρ' : Env) : TE := fun σ H Q => Rel X G bg ρ σ H ∧ ∀ v H', Rel X G bg ρ' σ H' → Ext H H' → Dx X H' v d → Q v H'
/-- an expression that makes a new list, nobody else's -/
def tF (ρ : Env) (xs : List D) (ρ' : Env) : TE := fun σ H Q => Rel X G bg ρ σ H ∧ ∀ a vs H', Rel X G bg ρ' σ H' → Ext H H' → H' a = some (.lst vs) → Dxs X H' vs xs → G a = none → (∀ i : Nat, isOwn ρ'[i]? = true → σ[i]? ≠ some (some (.ref a))) → Q (.ref a) H'
/-- the same of a dict -/
def tFD (ρ : Env) (kvs : List (D × D)) (ρ' : Env) : TE := fun σ H Q => Rel X G bg ρ σ H ∧ ∀ a es H', Rel X G bg ρ' σ H' → Ext H H' → H' a = some (DX a es) → DnE X.w X.K H' es.toList kvs → KOk kvs → G a = none → (∀ i : Nat, isOwn ρ'[i]? = true → σ[i]? ≠ some (some (.ref a))) → Q (.ref a) H'
def tST (ρ : Env) (k : Bool) (ρ' : Env) : TT := fun σ H Q => Rel X G bg ρ σ H ∧ ∀ H', Rel X G bg ρ' σ H' → Ext H H' → Q k H'
def tSA (ρ : Env) (ds : List D) (ρ' : Env) : TA := fun σ H Q => Rel X G bg ρ σ H ∧ ∀ vs H', Rel X G bg ρ' σ H' → Ext H H' → Dxs X H' vs ds → Q vs H'
end

/-! ### what is frozen -/
section
variable {X : Cx} {pins : List (Addr × Obj)} {σ : L2.St} {H : Hp} {s : Shared}
theorem freeze (I : Inv X pins σ H s) {a : Addr} {u : HO} (h : H a = some u) (ho : ∃ o, s.heap.get? a = some o) (hn1 : ∀ b, u ≠ .own b) (hn2 : ∀ xs, u ≠ .tup xs) (hn3 : ∀ o v, u ≠ .frz o v) (hn4 : ∀ ps, u ≠ .tbl ps) :
    ∃ o, Inv X pins σ (upd H a (.frz o u)) s := by
  obtain ⟨o, ho⟩ := ho
  refine ⟨o, ?_⟩
  have ne : ∀ b z, H b = some z → z ≠ u → b ≠ a := fun b z e d q => by subst q; rw [h] at e; cases e; exact d rfl
  have J := I.un (h' := s.heap) (H' := upd H a (.frz o u)) (t' := s.toks) ⟨fun b ob q n _ _ => q, fun b ob q n _ _ => ⟨ob.slots, q⟩, fun b ob q n _ => by rw [upd_ne (fun z => by subst z; rw [h] at n; cases n)]; exact n, fun b ob q _ => ⟨ob, q⟩,
    fun b xs e => by rw [upd_ne (ne b _ e (fun z => hn2 xs z.symm))]; exact e, fun b ob v e => by rw [upd_ne (ne b _ e (fun z => hn3 ob v z.symm))]; exact e, fun b ps e => ⟨#[], by rw [upd_ne (ne b _ e (fun z => hn4 ps z.symm)), e]; simp⟩⟩ ?_
  · exact J
  · intro b z e
    by_cases hb : b = a
    · subst hb
      rw [upd_same] at e
      cases e
      exact ⟨ho, (I.hok b u h).stay (fun c v _ q => q) (fun c q => by rw [upd_ne (ne c _ q (fun z => hn1 b z.symm))]; exact q) fun c xs q => by rw [upd_ne (ne c _ q (fun z => hn2 xs z.symm))]; exact q⟩
    · rw [upd_ne hb] at e
      exact (I.hok b z e).stay (fun c v _ q => q) (fun c q => by rw [upd_ne (ne c _ q (fun z => hn1 b z.symm))]; exact q) fun c xs q => by rw [upd_ne (ne c _ q (fun z => hn2 xs z.symm))]; exact q
theorem freeze_lst (I : Inv X pins σ H s) {a : Addr} {vs : List V} (h : H a = some (.lst vs)) : ∃ o, Inv X pins σ (upd H a (.frz o (.lst vs))) s := by
  obtain ⟨_, its, n, _, e⟩ : vs.length ≤ sizeLine ∧ ∃ (its : List Value) (n : Nat), Vals vs its ∧ s.heap.get? a = some { cls := .type "list", data := .seq its.toArray n } := I.hok a _ h
  exact freeze I h ⟨_, e⟩ (fun _ z => nomatch z) (fun _ z => nomatch z) (fun _ _ z => nomatch z) (fun _ z => nomatch z)
theorem freeze_dx (I : Inv X pins σ H s) {a : Addr} {es : Array DictEntry} (h : H a = some (DX a es)) : ∃ o, Inv X pins σ (upd H a (.frz o (DX a es))) s := by
  obtain ⟨_, ho, _⟩ := (show ObjOk X.prog X.w H s.heap a (DX a es) from I.hok a _ h)
  exact freeze I h ho (fun _ z => nomatch z) (fun _ z => nomatch z) (fun _ _ z => nomatch z) (fun _ z => nomatch z)
end

section
variable {cc : CC} {X : Cx} {lv : Nat} {G : Hp} {bg : Option Addr} {ρ ρ1 ρ2 ρ3 : Env} {a b c : Expr} {x y z : D} {pos : Pos}

/-- a new list, as data -/
theorem s_frz {xs : List D} (h : PE X a (tF X G bg ρ xs ρ1)) : PE X a (tS X G bg ρ (.list xs) ρ1) := by
  refine ⟨fun pins s σ H Q I ⟨R, q⟩ => ?_⟩
  refine thn (h.run pins s σ H (fun v H' => ∃ a vs, v = .ref a ∧ Rel X G bg ρ1 σ H' ∧ Ext H H' ∧ H' a = some (.lst vs) ∧ Dxs X H' vs xs ∧ G a = none ∧ ∀ i : Nat, isOwn ρ1[i]? = true → σ[i]? ≠ some (some (.ref a))) I
    ⟨R, fun a vs H' R' e h1 h2 h3 h4 => ⟨a, vs, rfl, R', e, h1, h2, h3, h4⟩⟩) fun u s' ⟨v, H', I', rv, a, vs, ev, R', e, h1, h2, h3, h4⟩ => ?_
  subst ev
  obtain ⟨o, J⟩ := freeze_lst I' h1
  have e2 := Ext.lst (o := .frz o (.lst vs)) h1
  exact ⟨.ref a, _, J, rv, q _ _ (R'.other h3 h4 e2 fun b o' hb hb' => by rw [upd_ne hb]; exact hb') (e.trans e2) (.lst upd_same (h2.ext e2))⟩
theorem s_frzD {kvs : List (D × D)} (h : PE X a (tFD X G bg ρ kvs ρ1)) : PE X a (tS X G bg ρ (.dict kvs) ρ1) := by
  refine ⟨fun pins s σ H Q I ⟨R, q⟩ => ?_⟩
  refine thn (h.run pins s σ H (fun v H' => ∃ a es, v = .ref a ∧ Rel X G bg ρ1 σ H' ∧ Ext H H' ∧ H' a = some (DX a es) ∧ DnE X.w X.K H' es.toList kvs ∧ KOk kvs ∧ G a = none ∧ ∀ i : Nat, isOwn ρ1[i]? = true → σ[i]? ≠ some (some (.ref a))) I
    ⟨R, fun a vs H' R' e h1 h2 h5 h3 h4 => ⟨a, vs, rfl, R', e, h1, h2, h5, h3, h4⟩⟩) fun u s' ⟨v, H', I', rv, a, es, ev, R', e, h1, h2, h5, h3, h4⟩ => ?_
  subst ev
  obtain ⟨o, J⟩ := freeze_dx I' h1
  have e2 := Ext.dx (o := .frz o (DX a es)) h1
  exact ⟨.ref a, _, J, rv, q _ _ (R'.other h3 h4 e2 fun b o' hb hb' => by rw [upd_ne hb]; exact hb') (e.trans e2) (.dct upd_same h5 (h2.ext e2))⟩

/-! ### names, constants -/
theorem s_var (o : OkX cc X lv) {i : Nat} {x : Str} {p : Pos} (hn : nmB cc i x = true) {d : D} (h : rdVar ρ i = some (d, ρ1)) : PE X (.Name x p) (tS X G bg ρ d ρ1) := by
  unfold nmB at hn
  simp only [Bool.and_eq_true, decide_eq_true_eq] at hn
  obtain ⟨⟨h1, h2⟩, h3⟩ := hn
  obtain ⟨p1, p2, _⟩ := nm_parts (cc := cc) h2
  have pe : PE X (.Name x p) (tVar i) := pe_var (by rw [o.n]; exact h1) (o.vis h3) p1 p2
  unfold rdVar at h
  split at h
  · rename_i dd q
    cases h
    refine pe.mono fun σ H Q ⟨R, k⟩ => ?_
    obtain ⟨v, e, r⟩ := R.at_ i _ q
    exact ⟨v, e, k v H R (Ext.refl H) r⟩
  · rename_i xs q
    cases h
    refine ⟨fun pins s σ H Q I ⟨R, k⟩ => ?_⟩
    obtain ⟨a, vs, e, r, t⟩ := R.at_ i _ q
    refine thn (pe.run pins s σ H (fun v H' => v = .ref a ∧ H' = H) I ⟨.ref a, e, rfl, rfl⟩) fun u s' ⟨v, H', I', rv, ev, eH⟩ => ?_
    subst ev eH
    obtain ⟨o, J⟩ := freeze_lst I' r
    have e2 := Ext.lst (o := .frz o (.lst vs)) r
    exact ⟨.ref a, _, J, rv, k _ _ (R.write (by rw [q]; rfl) e e2 (fun b o' hb hb' => by rw [upd_ne hb]; exact hb') ⟨.ref a, rfl, .lst upd_same (t.ext e2)⟩ (fun z => nomatch z) (fun z => nomatch z) (fun z => absurd (R.fresh i a (by rw [q]; rfl) e) (R.bgG a z))) e2 (.lst upd_same (t.ext e2))⟩
  · rename_i kvs q
    cases h
    refine ⟨fun pins s σ H Q I ⟨R, k⟩ => ?_⟩
    obtain ⟨a, es, e, r, t, ok⟩ := R.at_ i _ q
    refine thn (pe.run pins s σ H (fun v H' => v = .ref a ∧ H' = H) I ⟨.ref a, e, rfl, rfl⟩) fun u s' ⟨v, H', I', rv, ev, eH⟩ => ?_
    subst ev eH
    obtain ⟨o, J⟩ := freeze_dx I' r
    have e2 := Ext.dx (o := .frz o (DX a es)) r
    exact ⟨.ref a, _, J, rv, k _ _ (R.write (by rw [q]; rfl) e e2 (fun b o' hb hb' => by rw [upd_ne hb]; exact hb') ⟨.ref a, rfl, .dct upd_same ok (t.ext e2)⟩ (fun z => nomatch z) (fun z => nomatch z) (fun z => absurd (R.fresh i a (by rw [q]; rfl) e) (R.bgG a z))) e2 (.dct upd_same ok (t.ext e2))⟩
  · cases h
/-- a value that is data whatever the heap -/
theorem s_const {e : Expr} {v : V} (h : PE X e (tC v)) (hd : ∀ H, Dx X H v x) : PE X e (tS X G bg ρ x ρ) := h.mono fun σ H Q ⟨R, k⟩ => k v H R (Ext.refl H) (hd H)
/-- what a global constant is -/
def HasG (X : Cx) (x : Str) (d : D) : Prop := ∃ u v, X.mg x = some u ∧ RelV v u ∧ ∀ H, Dx X H v d
theorem s_glo (o : OkX cc X lv) {x : Str} {p : Pos} {d : D} (hg : glB cc x = true) (h : HasG X x d) : PE X (.Name x p) (tS X G bg ρ d ρ) := by
  obtain ⟨u, v, h1, h2, h3⟩ := h
  exact s_const (pe_glob (o.gl hg) h1 h2 (nm_parts (cc := cc) (gl_plain hg)).1) h3

/-! ### arguments, displays -/
theorem sa_nil : PA X [] (tSA X G bg ρ [] ρ) := pa_nil.mono fun σ H Q ⟨R, k⟩ => k [] H R (Ext.refl H) .nil
theorem star_of {e : Expr} (h : notStar e = true) (es : List Expr) (env : L2.Cx → PySem.Env) : starEach (e :: es) (env X) = (false, eval e (env X)) :: starEach es (env X) := by
  cases e <;> first | rfl | (simp [notStar] at h)
theorem star_of' {e : Expr} (h : notStar e = true) (es : List Expr) (env : PySem.Env) : starEach (e :: es) env = (false, eval e env) :: starEach es env := by
  cases e <;> first | rfl | (simp [notStar] at h)
theorem sa_cons {es : List Expr} {xs : List D} (hs : notStar a = true) (ha : PE X a (tS X G bg ρ x ρ1)) (he : PA X es (tSA X G bg ρ1 xs ρ2)) : PA X (a :: es) (tSA X G bg ρ (x :: xs) ρ2) :=
  (pa_cons ha he (star_of' hs es X.env)).mono fun σ H Q ⟨R, k⟩ => ⟨R, fun v H1 R1 e1 d1 => ⟨R1, fun vs H2 R2 e2 d2 => k (v :: vs) H2 R2 (e1.trans e2) (.cons (d1.ext e2) d2)⟩⟩
theorem few_of {n m : Nat} (h : n ≤ 1000000) : n ≤ sizeLine := by rw [sizeLine_eq]; omega
theorem s_tup {es : List Expr} {xs : List D} {k : Nat} (he : PA X es (tSA X G bg ρ xs ρ1)) (hl : xs.length ≤ 1000000) : PE X (.Tuple es k pos) (tS X G bg ρ (.tuple xs) ρ1) :=
  (pe_tup he).mono fun σ H Q ⟨R, q⟩ => ⟨R, fun vs H1 R1 e1 d1 => ⟨by rw [d1.length]; exact few_of (m := 0) hl, fun p hp => q _ _ (R1.laid hp) (e1.trans (Ext.new hp)) (.tup (.inl (.inl upd_same)) (d1.ext (Ext.new hp)))⟩⟩
theorem not_own_new (R : Rel X G bg ρ σ H) {p : Addr} (hp : H p = none) : ∀ i : Nat, isOwn ρ[i]? = true → σ[i]? ≠ some (some (.ref p)) := fun i hi z => by
  obtain ⟨a, o, h1, h2, _⟩ := R.own_at hi
  rw [z] at h1; cases h1
  rw [hp] at h2; cases h2
theorem s_lst {es : List Expr} {xs : List D} (he : PA X es (tSA X G bg ρ xs ρ1)) (hl : xs.length ≤ 1000000) : PE X (.List es pos) (tF X G bg ρ xs ρ1) :=
  (pe_lst he).mono fun σ H Q ⟨R, q⟩ => ⟨R, fun vs H1 R1 e1 d1 => ⟨by rw [d1.length]; exact few_of (m := 0) hl, fun p hp => q _ _ _ (R1.laid hp) (e1.trans (Ext.new hp)) upd_same (d1.ext (Ext.new hp)) (R1.new hp) (not_own_new R1 hp)⟩⟩
end
end WM
set_option Elab.async false
set_option linter.all false
set_option maxRecDepth 100000
set_option maxHeartbeats 4000000
/-! WmF: operators and comparisons on data. -/
namespace WM
open PySem PySem.Spec PyProof.Rows L2 PySem.W PySem.SeqAt

section
variable {X : Cx} {pins : List (Addr × Obj)} {σ : L2.St} {H : Hp} {s : Shared}
theorem lstR (I : Inv X pins σ H s) {l : Addr} {xs : List V} (h : Rd H l (.lst xs)) : xs.length ≤ sizeLine ∧ ∃ (its : List Value) (n : Nat), Vals xs its ∧ xs.length = its.length ∧ s.heap.get? l = some { cls := .type "list", data := .seq its.toArray n } := by
  obtain ⟨z, its, n, r, e⟩ := h.ok I.hok
  exact ⟨z, its, n, r, r.length, e⟩
/-- xs + ys of lists that are read -/
theorem op_catR : OpR X (binaryOp .Add) (fun x y H Q => ∃ l b xs zs, x = .ref l ∧ y = .ref b ∧ Rd H l (.lst xs) ∧ Rd H b (.lst zs) ∧ xs.length + zs.length ≤ sizeLine ∧ ∀ p, H p = none → Q (.ref p) (upd H p (.lst (xs ++ zs)))) := by
  rintro pins s σ H _ _ _ _ Q I rx ry ⟨l, b, xs, zs, rfl, rfl, h1, h2, hz, q⟩
  cases rx; cases ry
  obtain ⟨_, its, n, r, hl, e⟩ := lstR I h1
  obtain ⟨_, its2, n2, r2, hl2, e2⟩ := lstR I h2
  have ea : its.toArray ++ its2.toArray = (its ++ its2).toArray := by simp
  refine PySem.P.add_list e e2 ?_ (by rw [List.size_toArray, List.size_toArray]; omega)
  rw [ea]
  exact ⟨.ref _, _, I.lnew (t' := s.toks) (r.append r2) (by rw [List.length_append]; exact hz), rfl, q _ I.fresh⟩
theorem rep_its (its : List Value) (k : Nat) : List.foldl (fun x1 x2 => x1 ++ x2) #[] (List.replicate (if its.toArray.isEmpty = true then 0 else k) its.toArray) = (List.replicate k its).flatten.toArray := by
  rw [size_rep]
  cases its with
  | nil => simp
  | cons a r => rw [if_neg (by simp)]
theorem op_repR : OpR X (binaryOp .Mult) (fun x y H Q => ∃ l k xs, x = .ref l ∧ y = .int k ∧ Rd H l (.lst xs) ∧ 0 ≤ k ∧ k ≤ 1000 ∧ xs.length ≤ 1000 ∧ ∀ p, H p = none → Q (.ref p) (upd H p (.lst (List.replicate k.toNat xs).flatten))) := by
  rintro pins s σ H _ _ _ _ Q I rx ry ⟨l, k, xs, rfl, rfl, h1, k0, k1, hz, q⟩
  cases rx
  obtain ⟨t, rfl⟩ := ry
  obtain ⟨_, its, n, r, hl, e⟩ := lstR I h1
  have a1 : xs.length * k.toNat ≤ 1000 * 1000 := Nat.mul_le_mul hz (by omega)
  have a2 : its.toArray.size * k.toNat ≤ sizeLine := by rw [List.size_toArray, ← hl, sizeLine_eq]; omega
  have c1 : ¬ its.toArray.size * k.toNat > (2 ^ 63 - 1) / 8 := by rw [List.size_toArray, ← hl]; omega
  have c2 : ¬ (!Builtin.List.listFitsIndex k) = true := by rw [fitsIndex_both (by omega) (by omega)]; exact Bool.false_ne_true
  have c3 : ¬ Builtin.List.listTooLong (its.toArray.size * k.toNat) = true := by rw [notLongL a2]; exact Bool.false_ne_true
  refine wpAny_binaryOp_repeat_ref (T := "list") (U := "int") (by decide) ⟨_, e, rfl⟩ (fun s' => typeIs_int s' k t) noFill_list_mul F.fills_int_mul F.slot_int_rmul repeat_list F.slot_int_index.lookup
    (call_meets F.slot_int_rmul (typeIs_int s k t) F.entry_int_rmul (F.args_int_rmul_2 _ _) (int___rmul___int_list k t l its.toArray n)
      ⟨e, rfl, ⟨_, e, rfl⟩, call_meets F.slot_list_mul ⟨_, e, rfl⟩ F.entry_list_mul (F.args_list_mul_2 _ _) (AutoListH.list___mul___list_int_3 l its.toArray n k t c2 c1 c3) ⟨e, ?_⟩⟩)
  rw [rep_its]
  exact ⟨.ref _, _, I.lnew (t' := s.toks) (r.rep k.toNat) (by rw [PyProof.Rows.lm_len_rep_flat, Nat.mul_comm, sizeLine_eq]; omega), rfl, q _ I.fresh⟩
theorem tuple_mul1 (l : Addr) (items : Array Value) (n : Nat) (dd : Option Addr) (sl : Array (Option Value)) (u : Tok) (h0 : (items.isEmpty || (1 : Int) == 1) = true) :
    Meets (Builtin.«tuple.__mul__» ⟨[.ref l, .int 1 u], []⟩) (fun _ R s => s.heap.get? l = some { cls := .type "tuple", dict := dd, data := .seq items n, slots := sl } ∧ R (.ok (.ret (Value.ref l))) s) :=
  .of_wp fun prog w A R s h => by
    obtain ⟨hp, g, d, tk, os⟩ := s
    obtain ⟨hl, h⟩ := h
    have f1 := AutoSeq1.idx_int
    wp_walk using wpAny_loadPart' hl
    repeat (first
      | (refine wpAny_ite_true (decide_eq_true h0) ?_; wp_walk using wpAny_loadPart' hl)
      | (refine wpAny_ite_false (decide_eq_false (by decide)) ?_; wp_walk using wpAny_loadPart' hl))
    exact ⟨_, rfl, h⟩
theorem op_rep1 : OpR X (binaryOp .Mult) (fun x y H Q => ∃ l xs, x = .ref l ∧ y = .int 1 ∧ SqT X.K H l xs ∧ Q (.ref l) H) := by
  rintro pins s σ H _ _ _ _ Q I rx ry ⟨l, xs, rfl, rfl, h1, q⟩
  cases rx
  obtain ⟨t, rfl⟩ := ry
  obtain ⟨its, r, ⟨⟨cls, dd, data, sl⟩, ho, hc, n, hd⟩, hs⟩ := I.tuple h1
  simp only at hc hd
  subst hc hd
  refine wpAny_binaryOp_repeat_ref (T := "tuple") (U := "int") (by decide) ⟨_, ho, rfl⟩ (fun s' => typeIs_int s' 1 t) noFill_tuple_mul F.fills_int_mul F.slot_int_rmul repeat_tuple F.slot_int_index.lookup
    (call_meets F.slot_int_rmul (typeIs_int s 1 t) F.entry_int_rmul (F.args_int_rmul_2 _ _) (int_rmul_tuple 1 t l its.toArray n dd sl)
      ⟨ho, rfl, ⟨_, ho, rfl⟩, call_meets F.slot_tuple_mul ⟨_, ho, rfl⟩ F.entry_tuple_mul (F.args_tuple_mul_2 _ _) (tuple_mul1 l its.toArray n dd sl t (by simp)) ⟨ho, ?_⟩⟩)
  exact ⟨.ref l, H, I, rfl, q⟩

/-! comparisons -/
theorem room_u {k : Nat} {A : Around} (r : Room k A) {n : Nat} (h : n ≤ 60) : A.units + n < cLine := by have := r.un; omega
theorem op_cmpD {op : COp} (lv : Nat) (hr : Room lv X.A) (hop : op = .eq ∨ op = .ne ∨ op = .lt ∨ op = .le ∨ op = .gt ∨ op = .ge) : OpR X (compareOp (cmpOf op)) (fun x y H Q => ∃ d e k, Dx X H x d ∧ Dx X H y e ∧ evCmp op d e = some k ∧ Q (.bl k) H) := by
  rintro pins s σ H x y v u Q I rx ry ⟨d, e, k, dx, dy, hk, q⟩
  have fin : EP X pins σ Q (.bool k) s := ⟨.bl k, H, I, rfl, q⟩
  have un : ∀ {a b : D}, decide (a.depth ≤ 50) = true → X.A.units + min a.depth b.depth < cLine := fun {a b} h => by
    have h := of_decide_eq_true h
    exact room_u hr (Nat.le_trans (Nat.min_le_left _ _) (by omega))
  rcases hop with rfl | rfl | rfl | rfl | rfl | rfl
  · simp only [evCmp] at hk
    split at hk
    · rename_i h
      cases hk
      simp only [shallow, Bool.and_eq_true] at h
      obtain ⟨as, ra⟩ := reads_of I d x v dx h.1.1 rx
      obtain ⟨bs, rb⟩ := reads_of I e y u dy h.2.1 ry
      exact eq_plain ra rb h.1.1 h.2.1 (un h.1.2) fin
    · cases hk
  · simp only [evCmp] at hk
    split at hk
    · rename_i h
      cases hk
      simp only [shallow, Bool.and_eq_true] at h
      obtain ⟨as, ra⟩ := reads_of I d x v dx h.1.1 rx
      obtain ⟨bs, rb⟩ := reads_of I e y u dy h.2.1 ry
      exact ne_plain ra rb h.1.1 h.2.1 (un h.1.2) fin
    · cases hk
  all_goals
    simp only [evCmp] at hk
    split at hk
    · rename_i h
      cases hk
      simp only [cmpOk, shallow, Bool.and_eq_true, Bool.not_eq_true'] at h
      obtain ⟨⟨⟨hal, hnn⟩, pa, da⟩, pb, db⟩ := h
      have nn : d ≠ .none := fun z => by rw [z] at hnn; cases hnn
      obtain ⟨as, ra⟩ := reads_of I d x v dx pa rx
      obtain ⟨bs, rb⟩ := reads_of I e y u dy pb ry
      first
        | exact lt_data ra rb hal nn (un da) fin
        | exact le_data ra rb hal nn (un da) fin
        | exact gt_data ra rb hal nn (un da) fin
        | exact ge_data ra rb hal nn (un da) fin
    · cases hk
end
end WM
set_option Elab.async false
set_option linter.all false
set_option maxRecDepth 100000
set_option maxHeartbeats 4000000
/-! WmG: dicts of data, by their entries. -/
namespace WM
open PySem PySem.Spec PyProof.Rows L2 PySem.W PySem.SeqAt

def dk : D → Key
  | .int i => .inl i
  | .str x => .inr x
  | _ => .inl 0
def vkey : Value → Key
  | .int i _ => .inl i
  | .str x _ => .inr x
  | _ => .inl 0
def vaddr : Value → Addr
  | .ref a => a
  | _ => 0
theorem dk_inj {a b : D} (ha : keyd a = true) (ta : isTup a = false) (hb : keyd b = true) (tb : isTup b = false) (h : dk a = dk b) : a = b := by
  cases a <;> simp [keyd, isTup] at ha ta <;> cases b <;> simp [keyd, isTup] at hb tb <;> simp [dk] at h <;> rw [h]
theorem dk_hash (w : World) {d : D} (h : keyd d = true) (t : isTup d = false) : (nk d).hash w = keyH w (dk d) := by
  cases d <;> simp [keyd, isTup] at h t <;> rfl
theorem dk_is {d : D} (h : keyd d = true) (t : isTup d = false) {w : World} {K : PySem.W.Frag} {H : Hp} {v : V} {u : Value} (dn : Dn w K H v d) (r : RelV v u) : keyIs (dk d) u = true := by
  cases d <;> simp [keyd, isTup] at h t
  · cases dn; obtain ⟨t, rfl⟩ := r; exact keyIs_int _ _
  · cases dn; obtain ⟨t, rfl⟩ := r; exact keyIs_str _ _

section
variable (w : World) (K : PySem.W.Frag) (H : Hp)
abbrev KS (p : Key × Value) (q : D × D) : Prop := p.1 = dk q.1 ∧ keyd q.1 = true ∧ isTup q.1 = false ∧ ∃ v, RelV v p.2 ∧ Dn w K H v q.2
abbrev KTn (p : NestedKey × Addr × Value) (q : D × D) : Prop := p.1 = nk q.1 ∧ keyd q.1 = true ∧ isTup q.1 = true ∧ Dn w K H (.ref p.2.1) q.1 ∧ ∃ v, RelV v p.2.2 ∧ Dn w K H v q.2
/-- a looked up value -/
def LookR : Option D → Option Value → Prop
  | none, none => True
  | some d, some u => ∃ v, RelV v u ∧ Dn w K H v d
  | _, _ => False
end
section
variable {P : Program} {w : World} {K : PySem.W.Frag} {H H' : Hp}
theorem dget_cons (p : D × D) (kvs : List (D × D)) (k : D) : dget (p :: kvs) k = if p.1 = k then some p.2 else dget kvs k := by
  unfold dget
  by_cases h : p.1 = k
  · simp [h]
  · simp [h]
theorem ks_look : ∀ {vs : List (Key × Value)} {kvs : List (D × D)}, Paired (KS w K H) vs kvs → ∀ k : D, keyd k = true → isTup k = false → LookR w K H (dget kvs k) (valueAt vs (dk k))
  | _, _, .nil, _, _, _ => True.intro
  | p :: vs, q :: kvs, .cons r t, k, hk, tk => by
    obtain ⟨e, h1, h2, v, rv, dv⟩ := r
    rw [dget_cons]
    by_cases h : q.1 = k
    · rw [if_pos h]
      have : valueAt (p :: vs) (dk k) = some p.2 := by unfold valueAt; rw [List.find?_cons_of_pos (by simp [e, h])]; rfl
      rw [this]; exact ⟨v, rv, dv⟩
    · rw [if_neg h]
      have : valueAt (p :: vs) (dk k) = valueAt vs (dk k) := by
        unfold valueAt
        rw [List.find?_cons_of_neg (by rw [e]; simp only [decide_eq_true_eq]; exact fun z => h (dk_inj h1 h2 hk tk z))]
      rw [this]; exact ks_look t k hk tk
theorem kt_look : ∀ {vs : List (NestedKey × Addr × Value)} {kvs : List (D × D)}, Paired (KTn w K H) vs kvs → ∀ k : D, keyd k = true → LookR w K H (dget kvs k) ((atKey vs (nk k)).map (·.2))
  | _, _, .nil, _, _ => True.intro
  | p :: vs, q :: kvs, .cons r t, k, hk => by
    obtain ⟨e, h1, h2, _, v, rv, dv⟩ := r
    rw [dget_cons]
    by_cases h : q.1 = k
    · rw [if_pos h]
      have : atKey (p :: vs) (nk k) = some p.2 := by unfold atKey; rw [List.find?_cons_of_pos (by simp [e, h])]; rfl
      rw [this]; exact ⟨v, rv, dv⟩
    · rw [if_neg h]
      have : atKey (p :: vs) (nk k) = atKey vs (nk k) := by
        unfold atKey
        rw [List.find?_cons_of_neg (by rw [e]; simp only [decide_eq_true_eq]; exact fun z => h (nk_inj _ _ h1 hk z))]
      rw [this]; exact kt_look t k hk
theorem LookR.isSome {o : Option D} {u : Option Value} (h : LookR w K H o u) : o.isSome = u.isSome := by
  cases o <;> cases u <;> first | rfl | exact h.elim
theorem Paired.map2 {α β γ δ : Type} {F : α → β → Prop} {G : γ → δ → Prop} (f : α → γ) (g : β → δ) : ∀ {xs : List α} {ys : List β}, Paired F xs ys → (∀ a b, F a b → G (f a) (g b)) → Paired G (xs.map f) (ys.map g)
  | _, _, .nil, _ => .nil
  | _, _, .cons r t, h => .cons (h _ _ r) (Paired.map2 f g t h)
theorem Paired.any2 {α β : Type} {F : α → β → Prop} {p : α → Bool} {q : β → Bool} : ∀ {xs : List α} {ys : List β}, Paired F xs ys → (∀ a b, F a b → p a = q b) → xs.any p = ys.any q
  | _, _, .nil, _ => rfl
  | _, _, .cons r t, h => by rw [List.any_cons, List.any_cons, h _ _ r, Paired.any2 t h]
theorem ks_put {vs : List (Key × Value)} {kvs : List (D × D)} (r : Paired (KS w K H) vs kvs) {k x : D} (hk : keyd k = true) (tk : isTup k = false) {v : V} {u : Value} (rv : RelV v u) (dv : Dn w K H v x) :
    Paired (KS w K H) (stored vs (dk k) u) (dput kvs k x) := by
  have ek : ∀ (p : Key × Value) (q : D × D), KS w K H p q → decide (p.1 = dk k) = decide (q.1 = k) := fun p q ⟨e, h1, h2, _⟩ => by
    by_cases h : q.1 = k
    · rw [decide_eq_true h, e, h, decide_eq_true rfl]
    · rw [decide_eq_false h, e]; exact decide_eq_false fun z => h (dk_inj h1 h2 hk tk z)
  unfold stored dput
  rw [Paired.any2 r ek]
  split
  · refine Paired.map2 _ _ r fun p q h => ?_
    have e := ek p q h
    by_cases hq : q.1 = k
    · rw [decide_eq_true hq] at e
      rw [if_pos hq, if_pos (of_decide_eq_true e)]
      exact ⟨h.1, h.2.1, h.2.2.1, v, rv, dv⟩
    · rw [decide_eq_false hq] at e
      rw [if_neg hq, if_neg (of_decide_eq_false e)]
      exact h
  · exact Paired.snoc r ⟨rfl, hk, tk, v, rv, dv⟩
theorem find_any {α : Type} (p : α → Bool) : ∀ xs : List α, (xs.find? p).isSome = xs.any p
  | [] => rfl
  | x :: xs => by
    rw [List.find?_cons, List.any_cons]
    cases p x with
    | true => rfl
    | false => exact find_any p xs
theorem kt_put {vs : List (NestedKey × Addr × Value)} {kvs : List (D × D)} (r : Paired (KTn w K H) vs kvs) {k x : D} (hk : keyd k = true) (tk : isTup k = true) {b : Addr} (db : Dn w K H (.ref b) k) {v : V} {u : Value} (rv : RelV v u) (dv : Dn w K H v x) :
    Paired (KTn w K H) (storedH vs (nk k) b u) (dput kvs k x) := by
  have ek : ∀ (p : NestedKey × Addr × Value) (q : D × D), KTn w K H p q → decide (p.1 = nk k) = decide (q.1 = k) := fun p q ⟨e, h1, h2, _⟩ => by
    by_cases h : q.1 = k
    · rw [decide_eq_true h, e, h, decide_eq_true rfl]
    · rw [decide_eq_false h, e]; exact decide_eq_false fun z => h (nk_inj _ _ h1 hk z)
  have ea : (atKey vs (nk k)).isSome = kvs.any fun p => decide (p.1 = k) := by
    rw [← Paired.any2 r ek]
    unfold atKey
    rw [Option.isSome_map, find_any]
  unfold storedH dput
  rw [ea]
  split
  · refine Paired.map2 _ _ r fun p q h => ?_
    have e := ek p q h
    unfold putAt
    by_cases hq : q.1 = k
    · rw [decide_eq_true hq] at e
      rw [if_pos hq, if_pos (of_decide_eq_true e)]
      exact ⟨h.1, h.2.1, h.2.2.1, h.2.2.2.1, v, rv, dv⟩
    · rw [decide_eq_false hq] at e
      rw [if_neg hq, if_neg (of_decide_eq_false e)]
      exact h
  · exact Paired.snoc r ⟨rfl, hk, tk, db, v, rv, dv⟩
/-- entries whose keys are ints and texts -/
theorem ents_ks : ∀ {es : List DictEntry} {kvs : List (D × D)}, DnE w K H es kvs → (∀ p ∈ kvs, keyd p.1 = true ∧ isTup p.1 = false) →
    ∃ vs, Paired (KS w K H) vs kvs ∧ PySem.Pairs (mixKind P w) es vs ∧ ∀ e ∈ es, ∃ k, (mixKind P w).is k e.key = true ∧ e.hash = (mixKind P w).hash k
  | _, _, .nil, _ => ⟨[], .nil, .nil, fun _ h => nomatch h⟩
  | e :: es, (kd, vd) :: kvs, .cons h1 h2 h3 h4 h5 h6, hk => by
    obtain ⟨vs, a, b, c⟩ := ents_ks h6 fun p hp => hk p (List.mem_cons_of_mem _ hp)
    obtain ⟨k1, k2⟩ := hk _ List.mem_cons_self
    have ki := dk_is k1 k2 h3 h2
    refine ⟨(dk kd, e.val) :: vs, .cons ⟨rfl, k1, k2, _, h4, h5⟩ a, .cons ki rfl b, fun z hz => ?_⟩
    rcases List.mem_cons.mp hz with rfl | hz
    · exact ⟨dk kd, ki, by rw [h1]; exact dk_hash w k1 k2⟩
    · exact c z hz
theorem ents_kt : ∀ {es : List DictEntry} {kvs : List (D × D)}, DnE w K H es kvs → (∀ p ∈ kvs, keyd p.1 = true ∧ isTup p.1 = true) →
    ∃ xs, Paired (KTn w K H) xs kvs ∧ es = xs.map (entryOfKey (nestedKind P w))
  | _, _, .nil, _ => ⟨[], .nil, rfl⟩
  | e :: es, (kd, vd) :: kvs, .cons h1 h2 h3 h4 h5 h6, hk => by
    obtain ⟨xs, a, b⟩ := ents_kt h6 fun p hp => hk p (List.mem_cons_of_mem _ hp)
    obtain ⟨k1, k2⟩ := hk _ List.mem_cons_self
    cases kd with
    | tuple ds =>
      cases h3 with
      | @tup ka ks _ s1 s2 =>
        have h2 : e.key = .ref ka := h2
        refine ⟨(nk (.tuple ds), ka, e.val) :: xs, .cons ⟨rfl, k1, rfl, .tup s1 s2, _, h4, h5⟩ a, ?_⟩
        rw [List.map_cons, ← b]
        congr 1
        cases e
        simp only at h1 h2
        simp only [entryOfKey, nestedKind, h1, h2]
    | _ => cases k2
/-- back: entries from pairs -/
theorem ks_ents : ∀ {es : List DictEntry} {vs : List (Key × Value)} {kvs : List (D × D)}, PySem.Pairs (mixKind P w) es vs → (∀ e ∈ es, ∃ k, (mixKind P w).is k e.key = true ∧ e.hash = (mixKind P w).hash k) → Paired (KS w K H) vs kvs → DnE w K H es kvs
  | _, _, _, .nil, _, .nil => .nil
  | e :: es, p :: vs, (kd, vd) :: kvs, .cons h1 h2 t, hk, .cons ⟨e1, k1, k2, v, rv, dv⟩ r => by
    obtain ⟨k, q1, q2⟩ := hk e List.mem_cons_self
    have ek : k = p.1 := (mixKind P w).inj _ _ _ q1 h1
    subst ek
    have rest := ks_ents t (fun z hz => hk z (List.mem_cons_of_mem _ hz)) r
    have q3 : e.hash = (nk kd).hash w := by rw [q2, e1]; exact (dk_hash w k1 k2).symm
    rw [e1] at h1
    rw [← h2] at rv
    cases kd with
    | int z =>
      have h1 : keyIs (.inl z) e.key = true := h1
      obtain ⟨i, t, e2, e3⟩ | ⟨x, t, e2, _⟩ := keyIs_shape h1
      · cases e2; exact .cons q3 (kv := .int _) ⟨t, e3⟩ (.int _) rv dv rest
      · cases e2
    | str z =>
      have h1 : keyIs (.inr z) e.key = true := h1
      obtain ⟨i, t, e2, _⟩ | ⟨x, t, e2, e3⟩ := keyIs_shape h1
      · cases e2
      · cases e2; exact .cons q3 (kv := .str _) ⟨t, e3⟩ (.str _) rv dv rest
    | tuple z => cases k2
    | _ => cases k1
theorem kt_ents : ∀ {xs : List (NestedKey × Addr × Value)} {kvs : List (D × D)}, Paired (KTn w K H) xs kvs → DnE w K H (xs.map (entryOfKey (nestedKind P w))) kvs
  | _, _, .nil => .nil
  | p :: xs, (kd, vd) :: kvs, .cons ⟨e1, k1, k2, db, v, rv, dv⟩ r => by
    refine .cons (e := entryOfKey (nestedKind P w) p) ?_ (kv := .ref p.2.1) rfl db rv dv (kt_ents r)
    show (nestedKind P w).hash p.1 = _
    rw [e1]; rfl
end

/-! ### operations -/
section
variable {X : Cx} {pins : List (Addr × Obj)} {σ : L2.St} {H : Hp} {s : Shared} {a : Addr} {es : Array DictEntry} {kvs : List (D × D)} {k : D} {y : V} {u : Value}
/-- a dict that stands: a scalar one, or one of tuples -/
theorem dx_rd (I : Inv X pins σ H s) (h : Rd H a (DX a es)) : (a == sysModules) = false ∧ ∃ o ep, s.heap.get? a = some o ∧ o.ExactDict ∧ o.data = .dict es ep := by
  obtain ⟨⟨o, ep, h1, h2, h3, h4⟩, _⟩ := (show ObjOk X.prog X.w H s.heap a (DX a es) from h.ok I.hok)
  exact ⟨h4, o, ep, h1, h2, h3⟩
theorem dk_nodup {kvs : List (D × D)} (ok : KOk kvs) {vs : List (Key × Value)} {w K H} (r : Paired (KS w K H) vs kvs) : (vs.map (·.1)).Nodup := by
  have e : vs.map (·.1) = kvs.map fun q => dk q.1 := by
    clear ok
    induction r with
    | nil => rfl
    | cons r t ih => rw [List.map_cons, List.map_cons, ih, r.1]
  rw [e]
  have hs : ∀ q ∈ kvs, keyd q.1 = true ∧ isTup q.1 = false := by
    clear e ok
    induction r with
    | nil => exact fun _ h => nomatch h
    | cons r t ih => intro q hq; rcases List.mem_cons.mp hq with rfl | hq; exact ⟨r.2.1, r.2.2.1⟩; exact ih q hq
  have nd := ok.nd
  clear r e ok
  induction kvs with
  | nil => exact List.nodup_nil
  | cons q t ih =>
    rw [List.map_cons, List.nodup_cons] at nd ⊢
    refine ⟨fun hm => nd.1 ?_, ih (fun q hq => hs q (List.mem_cons_of_mem _ hq)) nd.2⟩
    obtain ⟨p, hp, e⟩ := List.mem_map.mp hm
    have h1 := hs p (List.mem_cons_of_mem _ hp)
    have h2 := hs q List.mem_cons_self
    rw [← dk_inj h1.1 h1.2 h2.1 h2.2 e]
    exact List.mem_map.mpr ⟨p, hp, rfl⟩
theorem nk_nodup {kvs : List (D × D)} (ok : KOk kvs) {vs : List (NestedKey × Addr × Value)} {w K H} (r : Paired (KTn w K H) vs kvs) : (vs.map (·.1)).Nodup := by
  have e : vs.map (·.1) = kvs.map fun q => nk q.1 := by
    clear ok
    induction r with
    | nil => rfl
    | cons r t ih => rw [List.map_cons, List.map_cons, ih, r.1]
  rw [e]
  have nd := ok.nd
  have hs := fun q hq => (ok.key q hq).1
  clear r e ok
  induction kvs with
  | nil => exact List.nodup_nil
  | cons q t ih =>
    rw [List.map_cons, List.nodup_cons] at nd ⊢
    refine ⟨fun hm => nd.1 ?_, ih nd.2 (fun q hq => hs q (List.mem_cons_of_mem _ hq))⟩
    obtain ⟨p, hp, e⟩ := List.mem_map.mp hm
    rw [← nk_inj _ _ (hs p (List.mem_cons_of_mem _ hp)) (hs q List.mem_cons_self) e]
    exact List.mem_map.mpr ⟨p, hp, rfl⟩
theorem fits_parts (h : fitsK kvs k = true) : keyd k = true ∧ k.depth ≤ 8 ∧ ∀ p ∈ kvs, isTup p.1 = isTup k := by
  unfold fitsK at h
  simp only [Bool.and_eq_true, decide_eq_true_eq, List.all_eq_true, beq_iff_eq] at h
  exact ⟨h.1.1, h.1.2, h.2⟩
theorem is_key (I : Inv X pins σ H s) (hk : keyd k = true) (hd : k.depth ≤ 8) {b : Addr} (dn : Dx X H (.ref b) k) : (nestedKind X.prog X.w).is s.heap (nk k) b :=
  ⟨nested_of I k _ _ dn hk rfl, by rw [nk_depth k hk]; exact hd⟩
theorem is_keys (I : Inv X pins σ H s) (ok : KOk kvs) {xs : List (NestedKey × Addr × Value)} (r : Paired (KTn X.w X.K H) xs kvs) : ∀ x ∈ xs, (nestedKind X.prog X.w).is s.heap x.1 x.2.1 := by
  have hk := ok.key
  clear ok
  induction r with
  | nil => exact fun _ h => nomatch h
  | cons r t ih =>
    intro x hx
    rcases List.mem_cons.mp hx with rfl | hx
    · have := is_key I r.2.1 (hk _ List.mem_cons_self).2 r.2.2.2.1
      rw [r.1]; exact this
    · exact ih (fun p hp => hk p (List.mem_cons_of_mem _ hp)) x hx
/-- the two makes of a dict, by the key that is asked -/
theorem dx_split (I : Inv X pins σ H s) (h : Rd H a (DX a es)) (r : DnE X.w X.K H es.toList kvs) (ok : KOk kvs) (hf : fitsK kvs k = true) (dy : Dx X H y k) (ry : RelV y u) :
    (isTup k = false ∧ ∃ vs, Paired (KS X.w X.K H) vs kvs ∧ s.heap.DictOf (mixKind X.prog X.w) a vs ∧ (mixKind X.prog X.w).is (dk k) u = true) ∨
    (isTup k = true ∧ ∃ xs b, u = .ref b ∧ Dx X H (.ref b) k ∧ Paired (KTn X.w X.K H) xs kvs ∧ s.heap.DictOfH (nestedKind X.prog X.w) a xs ∧ (nestedKind X.prog X.w).is s.heap (nk k) b) := by
  obtain ⟨k1, k2, k3⟩ := fits_parts hf
  obtain ⟨_, o, ep, h1, h2, h3⟩ := dx_rd I h
  cases tk : isTup k with
  | false =>
    left
    obtain ⟨vs, a1, a2, a3⟩ := ents_ks (P := X.prog) r fun p hp => ⟨(ok.key p hp).1, by rw [k3 p hp, tk]⟩
    exact ⟨rfl, vs, a1, ⟨o, es, ep, h1, h2, h3, fun e he => a3 e (Array.mem_toList_iff.mpr he), a2, dk_nodup ok a1⟩, dk_is k1 tk dy ry⟩
  | true =>
    right
    obtain ⟨xs, a1, a2⟩ := ents_kt (P := X.prog) r fun p hp => ⟨(ok.key p hp).1, by rw [k3 p hp, tk]⟩
    cases k <;> simp [isTup] at tk
    cases dy with
    | @tup b vs ds s1 s2 =>
      have ry : u = .ref b := ry
      exact ⟨rfl, xs, b, ry, .tup s1 s2, a1, ⟨o, es, ep, h1, h2, h3, a2, is_keys I ok a1, nk_nodup ok a1⟩, is_key I k1 k2 (.tup s1 s2)⟩
theorem pairs_len {w K H} : ∀ {vs : List (Key × Value)} {kvs : List (D × D)}, Paired (KS w K H) vs kvs → vs.length = kvs.length := fun r => Paired.length r
theorem room8 {lv : Nat} {A : Around} (hr : Room lv A) : A.in1.units + 8 < cLine := by have := hr.un; show A.units + 1 + 8 < _; omega
/-- y in d -/
theorem dx_in {Q : Value → Shared → Prop} (lv : Nat) (hr : Room lv X.A) (I : Inv X pins σ H s) (h : Rd H a (DX a es)) (r : DnE X.w X.K H es.toList kvs) (ok : KOk kvs) (hf : fitsK kvs k = true) (dy : Dx X H y k) (ry : RelV y u)
    (q : ∀ s', Inv X pins σ H s' → Q (.bool (dget kvs k).isSome) s') : wpAny (model X.prog X.w) X.A (compareOp .In u (.ref a)) Q X.xe s := by
  obtain ⟨k1, k2, k3⟩ := fits_parts hf
  rcases dx_split I h r ok hf dy ry with ⟨tk, vs, a1, a2, a3⟩ | ⟨tk, xs, b, rfl, db, a1, a2, a3⟩
  · refine wpAny_in_of a3 (dx_rd I h).1 a2.mapOf ?_
    rw [← (ks_look a1 k k1 tk).isSome]
    exact q _ (I.tok _)
  · refine wpAny_in_heap (room8 hr) a3 (dx_rd I h).1 a2 ?_
    have e := (kt_look a1 k k1).isSome
    rw [Option.isSome_map] at e
    rw [← e]
    exact q _ (I.tok _)
theorem dx_notIn {Q : Value → Shared → Prop} (lv : Nat) (hr : Room lv X.A) (I : Inv X pins σ H s) (h : Rd H a (DX a es)) (r : DnE X.w X.K H es.toList kvs) (ok : KOk kvs) (hf : fitsK kvs k = true) (dy : Dx X H y k) (ry : RelV y u)
    (q : ∀ s', Inv X pins σ H s' → Q (.bool (!(dget kvs k).isSome)) s') : wpAny (model X.prog X.w) X.A (compareOp .NotIn u (.ref a)) Q X.xe s := by
  obtain ⟨k1, k2, k3⟩ := fits_parts hf
  rcases dx_split I h r ok hf dy ry with ⟨tk, vs, a1, a2, a3⟩ | ⟨tk, xs, b, rfl, db, a1, a2, a3⟩
  · refine wpAny_notIn_of a3 (dx_rd I h).1 a2.mapOf ?_
    rw [← (ks_look a1 k k1 tk).isSome]
    exact q _ (I.tok _)
  · refine wpAny_notIn_heap (room8 hr) a3 (dx_rd I h).1 a2 ?_
    have e := (kt_look a1 k k1).isSome
    rw [Option.isSome_map] at e
    rw [← e]
    exact q _ (I.tok _)
theorem LookR.some_of {w K} {d : D} {o : Option Value} (h : LookR w K H (some d) o) : ∃ v r, o = some r ∧ RelV v r ∧ Dn w K H v d := by
  cases o with
  | none => exact h.elim
  | some r => obtain ⟨v, a, b⟩ := h; exact ⟨v, r, rfl, a, b⟩
/-- d[y], there -/
theorem dx_get {Q : Value → Shared → Prop} (lv : Nat) (hr : Room lv X.A) (I : Inv X pins σ H s) (h : Rd H a (DX a es)) (r : DnE X.w X.K H es.toList kvs) (ok : KOk kvs) (hf : fitsK kvs k = true) (dy : Dx X H y k) (ry : RelV y u) {x : D} (hx : dget kvs k = some x)
    (q : ∀ v r s', Inv X pins σ H s' → RelV v r → Dx X H v x → Q r s') : wpAny (model X.prog X.w) X.A (getItem (.ref a) u) Q X.xe s := by
  obtain ⟨k1, k2, k3⟩ := fits_parts hf
  rcases dx_split I h r ok hf dy ry with ⟨tk, vs, a1, a2, a3⟩ | ⟨tk, xs, b, rfl, db, a1, a2, a3⟩
  · have l := ks_look a1 k k1 tk
    rw [hx] at l
    obtain ⟨v, r, e1, e2, e3⟩ := l.some_of
    exact wpAny_getItem_of a3 a2.mapOf e1 (q v r _ (I.tok _) e2 e3)
  · have l := kt_look a1 k k1
    rw [hx] at l
    obtain ⟨v, r, e1, e2, e3⟩ := l.some_of
    obtain ⟨p, hp, hp2⟩ := Option.map_eq_some_iff.mp e1
    exact wpAny_getItem_heap (room8 hr) a3 a2 hp (by rw [hp2]; exact q v r _ (I.tok _) e2 e3)
/-- d.get(y, x) -/
theorem dx_getOr {Q : Value → Shared → Prop} (lv : Nat) (hr : Room lv X.A) (I : Inv X pins σ H s) (h : Rd H a (DX a es)) (r : DnE X.w X.K H es.toList kvs) (ok : KOk kvs) (hf : fitsK kvs k = true) (dy : Dx X H y k) (ry : RelV y u) {z : V} {t : Value} {x : D} (rz : RelV z t) (dz : Dx X H z x)
    (q : ∀ v r s', Inv X pins σ H s' → RelV v r → Dx X H v ((dget kvs k).getD x) → Q r s') : wpAny (model X.prog X.w) X.A (call (.builtin "dict.get") [.ref a, u, t]) Q X.xe s := by
  obtain ⟨k1, k2, k3⟩ := fits_parts hf
  have fin : ∀ (o : Option Value) s', LookR X.w X.K H (dget kvs k) o → Inv X pins σ H s' → Q (o.getD t) s' := fun o s' l I' => by
    cases hd : dget kvs k with
    | none =>
      rw [hd] at l q
      cases o with
      | none => exact q z t s' I' rz dz
      | some _ => exact l.elim
    | some d =>
      rw [hd] at l q
      obtain ⟨v, r, e1, e2, e3⟩ := l.some_of
      subst e1
      exact q v r s' I' e2 e3
  rcases dx_split I h r ok hf dy ry with ⟨tk, vs, a1, a2, a3⟩ | ⟨tk, xs, b, rfl, db, a1, a2, a3⟩
  · exact call_meetsIn PySem.F.slot_dict_get a2.typeIs PySem.F.entry_dict_get (PySem.F.args_dict_get_3 _ _ _) (meets_dict_get_default (mixKind X.prog X.w) a a3 (dx_rd I h).1 t) ⟨_, a2.mapOf, fin _ _ (ks_look a1 k k1 tk) (I.tok _)⟩
  · exact call_meetsIn PySem.F.slot_dict_get a2.typeIs PySem.F.entry_dict_get (PySem.F.args_dict_get_3 _ _ _) (meetsH_dict_get_default (nestedKind X.prog X.w) a b (dx_rd I h).1 t) ⟨room8 hr, _, xs, a3, a2, fin _ _ (kt_look a1 k k1) (I.tok _)⟩
theorem mem_dput {kvs : List (D × D)} {k v : D} {p : D × D} (h : p ∈ dput kvs k v) : p.1 = k ∨ ∃ q ∈ kvs, q.1 = p.1 := by
  unfold dput at h
  split at h
  · obtain ⟨q, hq, e⟩ := List.mem_map.mp h
    by_cases hk : q.1 = k
    · rw [if_pos hk] at e; rw [← e]; exact .inr ⟨q, hq, rfl⟩
    · rw [if_neg hk] at e; rw [← e]; exact .inr ⟨q, hq, rfl⟩
  · rcases List.mem_append.mp h with h | h
    · exact .inr ⟨p, h, rfl⟩
    · simp only [List.mem_singleton] at h; rw [h]; exact .inl rfl
theorem dput_len (kvs : List (D × D)) (k v : D) : (dput kvs k v).length ≤ kvs.length + 1 := by
  unfold dput
  split
  · rw [List.length_map]; omega
  · rw [List.length_append]; simp
theorem dput_keys (kvs : List (D × D)) (k v : D) : (dput kvs k v).map (·.1) = if kvs.any (fun p => decide (p.1 = k)) then kvs.map (·.1) else kvs.map (·.1) ++ [k] := by
  unfold dput
  split
  · rw [List.map_map]
    refine List.map_congr_left fun p _ => ?_
    show (if p.1 = k then (p.1, v) else p).1 = p.1
    split <;> rfl
  · rw [List.map_append]; rfl
theorem KOk.put (ok : KOk kvs) (hf : fitsK kvs k = true) (hl : kvs.length ≤ 100000) {v : D} : KOk (dput kvs k v) := by
  obtain ⟨k1, k2, k3⟩ := fits_parts hf
  refine ⟨?_, fun p hp => ?_, fun p hp q hq => ?_, ?_⟩
  · rw [dput_keys]
    split
    · exact ok.nd
    · rename_i h
      refine List.nodup_append.mpr ⟨ok.nd, by simp, fun a ha b hb e => h ?_⟩
      simp only [List.mem_singleton] at hb
      obtain ⟨p, hp, e'⟩ := List.mem_map.mp ha
      rw [List.any_eq_true]
      exact ⟨p, hp, by rw [decide_eq_true_eq, e', e, hb]⟩
  · rcases mem_dput hp with e | ⟨q, hq, e⟩
    · rw [e]; exact ⟨k1, k2⟩
    · rw [← e]; exact ok.key q hq
  · have f : ∀ p ∈ dput kvs k v, isTup p.1 = isTup k := fun p hp => by
      rcases mem_dput hp with e | ⟨q, hq, e⟩
      · rw [e]
      · rw [← e]; exact k3 q hq
    rw [f p hp, f q hq]
  · have := dput_len kvs k v; omega
/-- d[y] = x, and the store of a dict comprehension -/
theorem dx_put {t : Value} {z : V} {x : D} (I : Inv X pins σ H s) (h : H a = some (DX a es)) (r : DnE X.w X.K H es.toList kvs) (ok : KOk kvs) (hf : fitsK kvs k = true) (hl : kvs.length ≤ 100000) (dy : Dx X H y k) (ry : RelV y u) (rz : RelV z t) (dz : Dx X H z x) (lv : Nat) (hr : Room lv X.A) {Q : Unit → Shared → Prop}
    (q : ∀ es' s', Inv X pins σ (upd H a (DX a es')) s' → DnE X.w X.K (upd H a (DX a es')) es'.toList (dput kvs k x) → Q () s') :
    wpAny (model X.prog X.w) X.A (setItem (.ref a) u t) Q X.xe s ∧ wpAny (model X.prog X.w) X.A (dictSet a u t) Q X.xe s := by
  obtain ⟨k1, k2, k3⟩ := fits_parts hf
  have hd := (dx_rd I (.inl h)).1
  have fin : ∀ (h' : Heap) (tk : Nat) o es' ep, h'.get? a = some o → o.ExactDict → o.data = .dict es' ep → Heap.SameBut a s.heap h' → (DnE X.w X.K H es'.toList (dput kvs k x)) → Q () { s with heap := h', toks := tk } := fun h' tk o es' ep e1 e2 e3 hs rr =>
    q es' _ (d_write I (by rw [h]; exact True.intro) hs ⟨o, e1⟩ ⟨⟨o, ep, e1, e2, e3, hd⟩, ⟨o, e1⟩, fun h1 h2 ⟨o', ep', p1, p2, p3, p4⟩ hh => ⟨o', ep', hh _ p1, p2, p3, p4⟩⟩) (rr.ext (Ext.dx h))
  rcases dx_split I (.inl h) r ok hf dy ry with ⟨tk, vs, a1, a2, a3⟩ | ⟨tk, xs, b, rfl, db, a1, a2, a3⟩
  · have hz : vs.length ≤ sizeLine := by rw [Paired.length a1, sizeLine_eq]; omega
    have done : ∀ h', h'.DictOf (mixKind X.prog X.w) a (stored vs (dk k) t) → Heap.SameBut a s.heap h' → Q () { s with heap := h', toks := s.toks + 1 } := fun h' hd' hs => by
      obtain ⟨o, es', ep, e1, e2, e3, e4, e5, e6⟩ := hd'
      exact fin h' _ o es' ep e1 e2 e3 hs (ks_ents (P := X.prog) e5 (fun e he => e4 e (Array.mem_toList_iff.mp he)) (ks_put a1 k1 tk rz dz))
    exact ⟨wpAny_setItem_pairs (hsz := hz) a3 a2 done, wpAny_dictSet_pairs (hsz := hz) a3 a2 done⟩
  · have hz : xs.length ≤ sizeLine := by rw [Paired.length a1, sizeLine_eq]; omega
    have done : ∀ h', h'.DictOfH (nestedKind X.prog X.w) a (storedH xs (nk k) b t) → Heap.SameBut a s.heap h' → Q () { s with heap := h', toks := s.toks + (nestedKind X.prog X.w).draws (nk k) } := fun h' hd' hs => by
      obtain ⟨o, es', ep, e1, e2, e3, e4, e5, e6⟩ := hd'
      exact fin h' _ o es' ep e1 e2 e3 hs (by rw [e4]; exact kt_ents (kt_put a1 k1 tk db rz dz))
    exact ⟨wpAny_setItem_heap (hsz := hz) (room8 hr) a3 a2 done, wpAny_dictSet_heap (hsz := hz) (by have := hr.un; show X.A.units + 8 < _; omega) a3 a2 done⟩
end
end WM
set_option Elab.async false
set_option linter.all false
set_option maxRecDepth 100000
set_option maxHeartbeats 4000000
/-! WmH: expressions keep the evaluator's word. -/
namespace WM
open PySem PySem.Spec PyProof.Rows L2 PySem.W PySem.SeqAt

section
variable {cc : CC} {X : Cx} {lv : Nat} {G : Hp} {bg : Option Addr} {ρ ρ1 ρ2 ρ3 : Env} {a b c : Expr} {x y z : D} {pos : Pos}

/-- by an operator's rule that lays new things at most -/
theorem s_opE {f : Operator} {r : R2} (ho : OpR X (binaryOp f) r) (ha : PE X a (tS X G bg ρ x ρ1)) (hb : PE X b (tS X G bg ρ1 y ρ2))
    (m : ∀ (v u : V) (H : Hp) (Q : VK), Dx X H v x → Dx X H u y → (∀ w H', (∀ p o, H p = some o → H' p = some o) → Dx X H' w z → Q w H') → r v u H Q) : PE X (.BinOp a f b pos) (tS X G bg ρ z ρ2) :=
  (pe_op ho ha hb).mono fun σ H Q ⟨R, k⟩ => ⟨R, fun v H1 R1 e1 d1 => ⟨R1, fun u H2 R2 e2 d2 => m v u H2 Q (d1.ext e2) d2 fun w H' s d => k w H' (R2.keep s) (e1.trans (e2.trans (Ext.same s))) d⟩⟩
theorem s_opF {f : Operator} {r : R2} {zs : List D} (ho : OpR X (binaryOp f) r) (ha : PE X a (tS X G bg ρ x ρ1)) (hb : PE X b (tS X G bg ρ1 y ρ2))
    (m : ∀ (v u : V) (H : Hp) (Q : VK), Dx X H v x → Dx X H u y → (∀ p vs, H p = none → Dxs X H vs zs → Q (.ref p) (upd H p (.lst vs))) → r v u H Q) : PE X (.BinOp a f b pos) (tF X G bg ρ zs ρ2) :=
  (pe_op ho ha hb).mono fun σ H Q ⟨R, k⟩ => ⟨R, fun v H1 R1 e1 d1 => ⟨R1, fun u H2 R2 e2 d2 => m v u H2 Q (d1.ext e2) d2 fun p vs hp d => k p vs _ (R2.laid hp) (e1.trans (e2.trans (Ext.new hp))) upd_same (d.ext (Ext.new hp)) (R2.new hp) (not_own_new R2 hp)⟩⟩
theorem int_of {w K H} {v : V} {i : Int} (h : Dn w K H v (.int i)) : v = .int i := by cases h; rfl
theorem tup_of {w K H} {v : V} {ds : List D} (h : Dn w K H v (.tuple ds)) : ∃ a xs, v = .ref a ∧ SqT K H a xs ∧ DnA w K H xs ds := by cases h with | tup h1 h2 => exact ⟨_, _, rfl, h1, h2⟩
theorem lst_of {w K H} {v : V} {ds : List D} (h : Dn w K H v (.list ds)) : ∃ a xs, v = .ref a ∧ Rd H a (.lst xs) ∧ DnA w K H xs ds := by cases h with | lst h1 h2 => exact ⟨_, _, rfl, .inr ⟨_, h1⟩, h2⟩
theorem dct_of {w K H} {v : V} {kvs : List (D × D)} (h : Dn w K H v (.dict kvs)) : ∃ a es, v = .ref a ∧ Rd H a (DX a es) ∧ DnE w K H es.toList kvs ∧ KOk kvs := by cases h with | dct h1 h2 h3 => exact ⟨_, _, rfl, .inr ⟨_, h1⟩, h3, h2⟩
theorem big_of {i : Int} (h : big i = true) : -(2 ^ 64) < i ∧ i < 2 ^ 64 := of_decide_eq_true h
/-- + - * // % ** of data that are no lists -/
theorem s_bin (o : BOp) (ha : PE X a (tS X G bg ρ x ρ1)) (hb : PE X b (tS X G bg ρ1 y ρ2)) (hv : evBin o x y = some z) (hl : ∀ zs, z ≠ .list zs) : PE X (.BinOp a (opOf o) b pos) (tS X G bg ρ z ρ2) := by
  unfold evBin at hv
  split at hv
  · cases hv
    exact s_opE op_add ha hb fun v u H Q dv du k => by rw [int_of dv, int_of du]; exact ⟨_, _, rfl, rfl, k _ _ (fun _ _ e => e) (.int _)⟩
  · split at hv
    · rename_i xs ys hz
      cases hv
      refine s_opE op_catA ha hb fun v u H Q dv du k => ?_
      obtain ⟨a1, vs, rfl, h1, h2⟩ := tup_of dv
      obtain ⟨b1, us, rfl, h3, h4⟩ := tup_of du
      refine ⟨a1, b1, vs, us, rfl, rfl, h1, h3, by rw [h2.length, h4.length]; exact few_of (m := 0) hz, fun e => ?_, fun _ e => ?_, fun _ _ p hp => k _ _ (same_upd hp) (.tup (.inl (.inl upd_same)) ((h2.append h4).ext (Ext.new hp)))⟩
      · subst e; cases h2; exact k _ _ (fun _ _ e => e) (.tup h3 h4)
      · subst e; cases h4; rw [List.append_nil] at k; exact k _ _ (fun _ _ e => e) (.tup h1 h2)
    · cases hv
  · split at hv
    · cases hv; exact absurd rfl (hl _)
    · cases hv
  · cases hv
    exact s_opE op_sub ha hb fun v u H Q dv du k => by rw [int_of dv, int_of du]; exact ⟨_, _, rfl, rfl, k _ _ (fun _ _ e => e) (.int _)⟩
  · split at hv
    · rename_i i j hz
      cases hv
      refine s_opE op_mul ha hb fun v u H Q dv du k => ?_
      rw [int_of dv, int_of du]
      exact ⟨_, _, rfl, rfl, (Bool.or_eq_true _ _ ▸ hz).imp big_of big_of, k _ _ (fun _ _ e => e) (.int _)⟩
    · cases hv
  · split at hv
    · rename_i xs n hz
      cases hv
      obtain ⟨h0, h1, h2, h3⟩ := hz
      by_cases hn : n = 1
      · subst hn
        refine s_opE op_rep1 ha hb fun v u H Q dv du k => ?_
        obtain ⟨a1, vs, rfl, h4, h5⟩ := tup_of dv
        rw [int_of du]
        have e : (List.replicate (1 : Int).toNat xs).flatten = xs := by
          show (List.replicate 1 xs).flatten = xs
          simp
        rw [e] at k
        exact ⟨a1, vs, rfl, rfl, h4, k _ _ (fun _ _ e => e) (.tup h4 h5)⟩
      · refine s_opE op_repT ha hb fun v u H Q dv du k => ?_
        obtain ⟨a1, vs, rfl, h4, h5⟩ := tup_of dv
        rw [int_of du]
        exact ⟨a1, n, vs, rfl, rfl, h4, fun e => by subst e; cases h5; exact h0 rfl, by omega, h2, by rw [h5.length]; exact h3, fun p hp => k _ _ (same_upd hp) (.tup (.inl (.inl upd_same)) ((h5.flatten _).ext (Ext.new hp)))⟩
    · cases hv
  · split at hv
    · cases hv; exact absurd rfl (hl _)
    · cases hv
  · split at hv
    · rename_i i j hz
      cases hv
      exact s_opE op_fdiv ha hb fun v u H Q dv du k => by rw [int_of dv, int_of du]; exact ⟨_, _, rfl, rfl, hz, k _ _ (fun _ _ e => e) (.int _)⟩
    · cases hv
  · split at hv
    · rename_i i j hz
      cases hv
      exact s_opE op_mod ha hb fun v u H Q dv du k => by rw [int_of dv, int_of du]; exact ⟨_, _, rfl, rfl, hz, k _ _ (fun _ _ e => e) (.int _)⟩
    · cases hv
  · split at hv
    · rename_i i j hz
      cases hv
      exact s_opE op_pow ha hb fun v u H Q dv du k => by rw [int_of dv, int_of du]; exact ⟨_, _, rfl, rfl, hz, k _ _ (fun _ _ e => e) (.int _)⟩
    · cases hv
  · cases hv
theorem s_binF (o : BOp) {zs : List D} (ha : PE X a (tS X G bg ρ x ρ1)) (hb : PE X b (tS X G bg ρ1 y ρ2)) (hv : evBin o x y = some (.list zs)) : PE X (.BinOp a (opOf o) b pos) (tF X G bg ρ zs ρ2) := by
  unfold evBin at hv
  split at hv <;> first | (cases hv; done) | (split at hv <;> (cases hv; done)) | skip
  · split at hv
    · rename_i xs ys hz
      cases hv
      refine s_opF op_catR ha hb fun v u H Q dv du k => ?_
      obtain ⟨a1, vs, rfl, h1, h2⟩ := lst_of dv
      obtain ⟨b1, us, rfl, h3, h4⟩ := lst_of du
      exact ⟨a1, b1, vs, us, rfl, rfl, h1, h3, by rw [h2.length, h4.length]; exact few_of (m := 0) hz, fun p hp => k p _ hp (h2.append h4)⟩
    · cases hv
  · split at hv
    · rename_i xs n hz
      cases hv
      refine s_opF op_repR ha hb fun v u H Q dv du k => ?_
      obtain ⟨a1, vs, rfl, h1, h2⟩ := lst_of dv
      rw [int_of du]
      exact ⟨a1, n, vs, rfl, rfl, h1, hz.1, hz.2.1, by rw [h2.length]; exact hz.2.2, fun p hp => k p _ hp (h2.flatten _)⟩
    · cases hv
theorem s_neg {i : Int} (ha : PE X a (tS X G bg ρ (.int i) ρ1)) : PE X (.UnaryOp .USub a pos) (tS X G bg ρ (.int (-i)) ρ1) :=
  (pe_un un_neg ha).mono fun σ H Q ⟨R, k⟩ => ⟨R, fun v H1 R1 e1 d1 => by rw [int_of d1]; exact ⟨i, rfl, k _ _ R1 e1 (.int _)⟩⟩

/-! ### comparisons -/
theorem cmpR_in (hr : Room lv X.A) : OpR X (compareOp .In) (fun v u H Q => ∃ d e k, Dx X H v d ∧ ((∃ w, e = w ∧ Dx X H u w) ∧ evIn d e = some k) ∧ Q (.bl k) H) := by
  rintro pins s σ H x y v u Q I rx ry ⟨d, e, k, dx, ⟨⟨w, rfl, dy⟩, hk⟩, q⟩
  have fin : ∀ s', Inv X pins σ H s' → EP X pins σ Q (.bool k) s' := fun s' I' => ⟨.bl k, H, I', rfl, q⟩
  have un : ∀ {a : D} {n : Nat}, decide (a.depth ≤ 50) = true → X.A.units + 1 + min n a.depth < cLine := fun {a n} h => by
    have h := of_decide_eq_true h
    have h2 := hr.un
    have h3 := Nat.min_le_right n a.depth
    omega
  unfold evIn at hk
  split at hk
  · split at hk
    · rename_i xs h
      cases hk
      simp only [shallow, Bool.and_eq_true] at h
      obtain ⟨as, ra⟩ := reads_of I d x v dx h.1.1 rx
      obtain ⟨bs, rb⟩ := reads_of I (.tuple xs) y u dy (by simp only [PyData.plain]; exact h.2) ry
      exact in_tuple_data rb ra h.2 h.1.1 (un h.1.2) (fin s I)
    · cases hk
  · split at hk
    · rename_i xs h
      cases hk
      simp only [shallow, Bool.and_eq_true] at h
      obtain ⟨as, ra⟩ := reads_of I d x v dx h.1.1 rx
      obtain ⟨bs, rb⟩ := reads_of I (.list xs) y u dy (by simp only [PyData.plain]; exact h.2) ry
      exact in_list_data rb ra h.2 h.1.1 (un h.1.2) (fin s I)
    · cases hk
  · split at hk
    · rename_i kvs h
      cases hk
      obtain ⟨a1, es, rfl, h1, h2, h3⟩ := dct_of dy
      cases ry
      exact dx_in lv hr I h1 h2 h3 h dx rx fin
    · cases hk
  · split at hk
    · split at hk
      · rename_i z cs h
        cases hk
        cases dx
        cases dy
        have hc : (⟨cs⟩ : Str) = ⟨#[cs.toList.headD 0]⟩ := by
          cases cs with
          | mk l =>
            cases l with
            | nil => simp at h
            | cons c t =>
              cases t with
              | nil => rfl
              | cons _ _ => simp at h
        refine op_in_sign pins s σ H _ _ v u Q I rx ry ⟨cs.toList.headD 0, _, by rw [← hc], rfl, q⟩
      · cases hk
    · cases hk
  · cases hk
theorem cmpR_nin (hr : Room lv X.A) : OpR X (compareOp .NotIn) (fun v u H Q => ∃ d e k, Dx X H v d ∧ ((∃ w, e = w ∧ Dx X H u w) ∧ evIn d e = some k) ∧ Q (.bl (!k)) H) := by
  rintro pins s σ H x y v u Q I rx ry ⟨d, e, k, dx, ⟨⟨w, rfl, dy⟩, hk⟩, q⟩
  have fin : ∀ s', Inv X pins σ H s' → EP X pins σ Q (.bool (!k)) s' := fun s' I' => ⟨.bl (!k), H, I', rfl, q⟩
  have un : ∀ {a : D} {n : Nat}, decide (a.depth ≤ 50) = true → X.A.units + 1 + min n a.depth < cLine := fun {a n} h => by
    have h := of_decide_eq_true h
    have h2 := hr.un
    have h3 := Nat.min_le_right n a.depth
    omega
  unfold evIn at hk
  split at hk
  · split at hk
    · rename_i xs h
      cases hk
      simp only [shallow, Bool.and_eq_true] at h
      obtain ⟨as, ra⟩ := reads_of I d x v dx h.1.1 rx
      obtain ⟨bs, rb⟩ := reads_of I (.tuple xs) y u dy (by simp only [PyData.plain]; exact h.2) ry
      exact notIn_tuple_data rb ra h.2 h.1.1 (un h.1.2) (fin s I)
    · cases hk
  · split at hk
    · rename_i xs h
      cases hk
      simp only [shallow, Bool.and_eq_true] at h
      obtain ⟨as, ra⟩ := reads_of I d x v dx h.1.1 rx
      obtain ⟨bs, rb⟩ := reads_of I (.list xs) y u dy (by simp only [PyData.plain]; exact h.2) ry
      exact notIn_list_data rb ra h.2 h.1.1 (un h.1.2) (fin s I)
    · cases hk
  · split at hk
    · rename_i kvs h
      cases hk
      obtain ⟨a1, es, rfl, h1, h2, h3⟩ := dct_of dy
      cases ry
      exact dx_notIn lv hr I h1 h2 h3 h dx rx fin
    · cases hk
  · split at hk
    · split at hk
      · rename_i z cs h
        cases hk
        cases dx
        cases dy
        have hc : (⟨cs⟩ : Str) = ⟨#[cs.toList.headD 0]⟩ := by
          cases cs with
          | mk l =>
            cases l with
            | nil => simp at h
            | cons c t =>
              cases t with
              | nil => rfl
              | cons _ _ => simp at h
        refine op_notIn_sign pins s σ H _ _ v u Q I rx ry ⟨cs.toList.headD 0, _, by rw [← hc], rfl, q⟩
      · cases hk
    · cases hk
  · cases hk
theorem none_iff {w K H} {v : V} {d : D} (h : Dn w K H v d) : decide (v = .non) = isNone d := by
  cases h <;> rfl
/-- the ten comparisons, one rule -/
theorem op_all (hr : Room lv X.A) (o : COp) : OpR X (compareOp (cmpOf o)) (fun v u H Q => ∃ d e k, Dx X H v d ∧ Dx X H u e ∧ evCmp o d e = some k ∧ Q (.bl k) H) := by
  cases o with
  | inn => exact fun pins s σ H x y v u Q I rx ry ⟨d, e, k, h1, h2, h3, q⟩ => cmpR_in hr pins s σ H x y v u Q I rx ry ⟨d, e, k, h1, ⟨⟨e, rfl, h2⟩, h3⟩, q⟩
  | nin =>
    rintro pins s σ H x y v u Q I rx ry ⟨d, e, k, h1, h2, h3, q⟩
    simp only [evCmp, Option.map_eq_some_iff] at h3
    obtain ⟨k', h3, rfl⟩ := h3
    exact cmpR_nin hr pins s σ H x y v u Q I rx ry ⟨d, e, k', h1, ⟨⟨e, rfl, h2⟩, h3⟩, q⟩
  | is =>
    rintro pins s σ H x y v u Q I rx ry ⟨d, e, k, h1, h2, h3, q⟩
    simp only [evCmp] at h3
    split at h3
    · rename_i hn
      cases h3
      refine op_isN pins s σ H x y v u Q I rx ry ⟨?_, by rw [none_iff h1]; exact q⟩
      have := none_iff h2
      rw [hn] at this
      exact of_decide_eq_true this
    · cases h3
  | isn =>
    rintro pins s σ H x y v u Q I rx ry ⟨d, e, k, h1, h2, h3, q⟩
    simp only [evCmp] at h3
    split at h3
    · rename_i hn
      cases h3
      refine op_notN pins s σ H x y v u Q I rx ry ⟨?_, by rw [none_iff h1]; exact q⟩
      have := none_iff h2
      rw [hn] at this
      exact of_decide_eq_true this
    · cases h3
  | eq => exact op_cmpD lv hr (.inl rfl)
  | ne => exact op_cmpD lv hr (.inr (.inl rfl))
  | lt => exact op_cmpD lv hr (.inr (.inr (.inl rfl)))
  | le => exact op_cmpD lv hr (.inr (.inr (.inr (.inl rfl))))
  | gt => exact op_cmpD lv hr (.inr (.inr (.inr (.inr (.inl rfl)))))
  | ge => exact op_cmpD lv hr (.inr (.inr (.inr (.inr (.inr rfl)))))
theorem mark_of {op : CmpOp} {e : Expr} (h : notSet e = true) : behindInMarks op e = false := by
  cases e <;> first | rfl | (simp [notSet] at h)
theorem s_cmp (hr : Room lv X.A) (o : COp) {k : Bool} (ha : PE X a (tS X G bg ρ x ρ1)) (hb : PE X b (tS X G bg ρ1 y ρ2)) (hs : notSet b = true) (hk : evCmp o x y = some k) : PE X (.Compare a [cmpOf o] [b] pos) (tS X G bg ρ (.bool k) ρ2) :=
  (pe_cmpR (op_all hr o) ha hb (mark_of hs)).mono fun σ H Q ⟨R, q⟩ => ⟨R, fun v H1 R1 e1 d1 => ⟨R1, fun u H2 R2 e2 d2 => ⟨x, y, k, d1.ext e2, d2, hk, q _ _ R2 (e1.trans e2) (.bl k)⟩⟩⟩
theorem st_cmp (hr : Room lv X.A) (o : COp) {k : Bool} (ha : PE X a (tS X G bg ρ x ρ1)) (hb : PE X b (tS X G bg ρ1 y ρ2)) (hs : notSet b = true) (hk : evCmp o x y = some k) : PT X (.Compare a [cmpOf o] [b] pos) (tST X G bg ρ k ρ2) :=
  (pt_cmpR (op_all hr o) ha hb (mark_of hs)).mono fun σ H Q ⟨R, q⟩ => ⟨R, fun v H1 R1 e1 d1 => ⟨R1, fun u H2 R2 e2 d2 => ⟨x, y, k, d1.ext e2, d2, hk, k, rfl, q _ R2 (e1.trans e2)⟩⟩⟩
end
end WM
set_option Elab.async false
set_option linter.all false
set_option maxRecDepth 100000
set_option maxHeartbeats 4000000
/-! WmI: and, or, not, tests, calls. -/
namespace WM
open PySem PySem.Spec PyProof.Rows L2 PySem.W PySem.SeqAt

section
variable {cc : CC} {X : Cx} {lv : Nat} {G : Hp} {bg : Option Addr} {ρ ρ1 ρ2 ρ3 : Env} {a b c : Expr} {x y z : D} {pos : Pos} {rest : List Expr} {k k1 k2 : Bool}

theorem bool_of {w K H} {v : V} {i : Bool} (h : Dn w K H v (.bool i)) : v = .bl i := by cases h; rfl
theorem s_chain_t (hr : Room lv X.A) (o1 o2 : COp) (ha : PE X a (tS X G bg ρ x ρ1)) (hb : PE X b (tS X G bg ρ1 y ρ2)) (hc : PE X c (tS X G bg ρ2 z ρ3)) (hs : notSet c = true) (h1 : evCmp o1 x y = some true) (h2 : evCmp o2 y z = some k) :
    PE X (.Compare a [cmpOf o1, cmpOf o2] [b, c] pos) (tS X G bg ρ (.bool k) ρ3) ∧ PT X (.Compare a [cmpOf o1, cmpOf o2] [b, c] pos) (tST X G bg ρ k ρ3) := by
  refine ⟨(pe_chain (op_all hr o1) (op_all hr o2) ha hb hc (mark_of hs)).mono ?_, (pt_chain (op_all hr o1) (op_all hr o2) ha hb hc (mark_of hs)).mono ?_⟩
  · exact fun σ H Q ⟨R, q⟩ => ⟨R, fun v H1 R1 e1 d1 => ⟨R1, fun u H2 R2 e2 d2 => ⟨x, y, true, d1.ext e2, d2, h1, true, rfl, iteT ⟨R2, fun t H3 R3 e3 d3 => ⟨y, z, k, d2.ext e3, d3, h2, q _ _ R3 (e1.trans (e2.trans e3)) (.bl k)⟩⟩⟩⟩⟩
  · exact fun σ H Q ⟨R, q⟩ => ⟨R, fun v H1 R1 e1 d1 => ⟨R1, fun u H2 R2 e2 d2 => ⟨x, y, true, d1.ext e2, d2, h1, true, rfl, iteT ⟨R2, fun t H3 R3 e3 d3 => ⟨y, z, k, d2.ext e3, d3, h2, k, rfl, q _ R3 (e1.trans (e2.trans e3))⟩⟩⟩⟩⟩
theorem s_chain_f (hr : Room lv X.A) (o1 o2 : COp) (ha : PE X a (tS X G bg ρ x ρ1)) (hb : PE X b (tS X G bg ρ1 y ρ2)) (hs : notSet c = true) (h1 : evCmp o1 x y = some false) :
    PE X (.Compare a [cmpOf o1, cmpOf o2] [b, c] pos) (tS X G bg ρ (.bool false) ρ2) ∧ PT X (.Compare a [cmpOf o1, cmpOf o2] [b, c] pos) (tST X G bg ρ false ρ2) := by
  have hc : PE X c (fun _ _ _ => False) := ⟨fun _ _ _ _ _ _ h => h.elim⟩
  refine ⟨(pe_chain (op_all hr o1) (op_all hr o2) ha hb hc (mark_of hs)).mono ?_, (pt_chain (op_all hr o1) (op_all hr o2) ha hb hc (mark_of hs)).mono ?_⟩
  · exact fun σ H Q ⟨R, q⟩ => ⟨R, fun v H1 R1 e1 d1 => ⟨R1, fun u H2 R2 e2 d2 => ⟨x, y, false, d1.ext e2, d2, h1, false, rfl, iteF (q _ _ R2 (e1.trans e2) (.bl false))⟩⟩⟩
  · exact fun σ H Q ⟨R, q⟩ => ⟨R, fun v H1 R1 e1 d1 => ⟨R1, fun u H2 R2 e2 d2 => ⟨x, y, false, d1.ext e2, d2, h1, false, rfl, iteF ⟨false, rfl, q _ R2 (e1.trans e2)⟩⟩⟩⟩
theorem pe_dead (e : Expr) : PE X e (fun _ _ _ => False) := ⟨fun _ _ _ _ _ _ h => h.elim⟩
theorem pt_dead (e : Expr) : PT X e (fun _ _ _ => False) := ⟨fun _ _ _ _ _ _ h => h.elim⟩
theorem pw_dead (e : Expr) : PW X e (fun _ _ _ => False) := ⟨fun _ _ _ _ _ _ _ h => h.elim⟩
theorem s_and_t (ha : PE X a (tS X G bg ρ (.bool true) ρ1)) (hb : PE X (.BoolOp .And (b :: rest) pos) (tS X G bg ρ1 y ρ2)) : PE X (.BoolOp .And (a :: b :: rest) pos) (tS X G bg ρ y ρ2) :=
  (pe_and ha hb).mono fun σ H Q ⟨R, q⟩ => ⟨R, fun v H1 R1 e1 d1 => ⟨true, bool_of d1, iteT ⟨R1, fun u H2 R2 e2 d2 => q _ _ R2 (e1.trans e2) d2⟩⟩⟩
theorem s_and_f (ha : PE X a (tS X G bg ρ (.bool false) ρ1)) : PE X (.BoolOp .And (a :: b :: rest) pos) (tS X G bg ρ (.bool false) ρ1) :=
  (pe_and ha (pe_dead _)).mono fun σ H Q ⟨R, q⟩ => ⟨R, fun v H1 R1 e1 d1 => ⟨false, bool_of d1, iteF (q _ _ R1 e1 (.bl _))⟩⟩
theorem s_or_f (ha : PE X a (tS X G bg ρ (.bool false) ρ1)) (hb : PE X (.BoolOp .Or (b :: rest) pos) (tS X G bg ρ1 y ρ2)) : PE X (.BoolOp .Or (a :: b :: rest) pos) (tS X G bg ρ y ρ2) :=
  (pe_or ha hb).mono fun σ H Q ⟨R, q⟩ => ⟨R, fun v H1 R1 e1 d1 => ⟨false, bool_of d1, iteF ⟨R1, fun u H2 R2 e2 d2 => q _ _ R2 (e1.trans e2) d2⟩⟩⟩
theorem s_or_t (ha : PE X a (tS X G bg ρ (.bool true) ρ1)) : PE X (.BoolOp .Or (a :: b :: rest) pos) (tS X G bg ρ (.bool true) ρ1) :=
  (pe_or ha (pe_dead _)).mono fun σ H Q ⟨R, q⟩ => ⟨R, fun v H1 R1 e1 d1 => ⟨true, bool_of d1, iteT (q _ _ R1 e1 (.bl _))⟩⟩
theorem s_not (ha : PE X a (tS X G bg ρ (.bool k) ρ1)) : PE X (.UnaryOp .Not a pos) (tS X G bg ρ (.bool (!k)) ρ1) :=
  (pe_not ha).mono fun σ H Q ⟨R, q⟩ => ⟨R, fun v H1 R1 e1 d1 => ⟨k, bool_of d1, q _ _ R1 e1 (.bl _)⟩⟩
theorem s_ite {t : Expr} (ht : PT X t (tST X G bg ρ k ρ1)) (ha : k = true → PE X a (tS X G bg ρ1 x ρ2)) (hb : k = false → PE X b (tS X G bg ρ1 x ρ2)) : PE X (.IfExp t a b pos) (tS X G bg ρ x ρ2) := by
  cases k with
  | true => exact (pe_ifExp ht (ha rfl) (pe_dead _)).mono fun σ H Q ⟨R, q⟩ => ⟨R, fun H1 R1 e1 => iteT ⟨R1, fun v H2 R2 e2 d2 => q _ _ R2 (e1.trans e2) d2⟩⟩
  | false => exact (pe_ifExp ht (pe_dead _) (hb rfl)).mono fun σ H Q ⟨R, q⟩ => ⟨R, fun H1 R1 e1 => iteF ⟨R1, fun v H2 R2 e2 d2 => q _ _ R2 (e1.trans e2) d2⟩⟩
/-! tests -/
theorem plain_of {e : Expr} (h : plainTest e = true) (env : PySem.Env) : ∀ whole, isTrue e env whole = (do let v ← whole; standAt e.pos; holding [v] (truthy v)) := by
  intro whole
  cases e with
  | UnaryOp op _ _ => cases op <;> first | rfl | (simp [plainTest] at h)
  | _ => first | rfl | (simp [plainTest] at h)
theorem st_val {e : Expr} (hp : plainTest e = true) (h : PE X e (tS X G bg ρ (.bool k) ρ1)) : PT X e (tST X G bg ρ k ρ1) :=
  (pt_val h (plain_of hp X.env)).mono fun σ H Q ⟨R, q⟩ => ⟨R, fun v H1 R1 e1 d1 => ⟨k, bool_of d1, q H1 R1 e1⟩⟩
theorem st_not (h : PT X a (tST X G bg ρ k ρ1)) : PT X (.UnaryOp .Not a pos) (tST X G bg ρ (!k) ρ1) := (pt_not h).mono fun σ H Q ⟨R, q⟩ => ⟨R, q⟩
theorem sw_and_t (ha : PT X a (tST X G bg ρ true ρ1)) (hb : PW X (.BoolOp .And (b :: rest) pos) (tST X G bg ρ1 k ρ2)) : PW X (.BoolOp .And (a :: b :: rest) pos) (tST X G bg ρ k ρ2) :=
  (pw_and ha hb).mono fun σ H Q ⟨R, q⟩ => ⟨R, fun H1 R1 e1 => iteT ⟨R1, fun H2 R2 e2 => q H2 R2 (e1.trans e2)⟩⟩
theorem sw_and_f (ha : PT X a (tST X G bg ρ false ρ1)) : PW X (.BoolOp .And (a :: b :: rest) pos) (tST X G bg ρ false ρ1) :=
  (pw_and ha (pw_dead _)).mono fun σ H Q ⟨R, q⟩ => ⟨R, fun H1 R1 e1 => iteF (q H1 R1 e1)⟩
theorem sw_or_f (ha : PT X a (tST X G bg ρ false ρ1)) (hb : PW X (.BoolOp .Or (b :: rest) pos) (tST X G bg ρ1 k ρ2)) : PW X (.BoolOp .Or (a :: b :: rest) pos) (tST X G bg ρ k ρ2) :=
  (pw_or ha hb).mono fun σ H Q ⟨R, q⟩ => ⟨R, fun H1 R1 e1 => iteF ⟨R1, fun H2 R2 e2 => q H2 R2 (e1.trans e2)⟩⟩
theorem sw_or_t (ha : PT X a (tST X G bg ρ true ρ1)) : PW X (.BoolOp .Or (a :: b :: rest) pos) (tST X G bg ρ true ρ1) :=
  (pw_or ha (pw_dead _)).mono fun σ H Q ⟨R, q⟩ => ⟨R, fun H1 R1 e1 => iteT (q H1 R1 e1)⟩

/-! ### calls of defs -/
/-- a def that hands back F of its arguments and changes nothing -/
def spP (w : World) (K : PySem.W.Frag) (n : Nat) (F : FP) : Sp := fun vs H Q _ => vs.length = n ∧ ∃ ds r, DnA w K H vs ds ∧ F ds = some r ∧ ∀ v H', (∀ b o, H b = some o → H' b = some o) → Dn w K H' v r → Q v H'
/-- a def that may change the list that is its first argument -/
def spB (w : World) (K : PySem.W.Frag) (n : Nat) (F : FB) : Sp := fun vs H Q _ => vs.length = n ∧ ∃ a us xs vs' ds r xs', vs = .ref a :: vs' ∧ H a = some (.lst us) ∧ DnA w K H us xs ∧ DnA w K H vs' ds ∧ F xs ds = some (r, xs') ∧
  ∀ v H' us', (∀ b o, b ≠ a → H b = some o → H' b = some o) → H' a = some (.lst us') → DnA w K H' us' xs' → Dn w K H' v r → Q v H'
def HasP (X : Cx) (lv : Nat) (f : Str) (F : FP) : Prop := ∃ fa fd ps, X.mg f = some (.ref fa) ∧ FnOk X.prog X.w X.K X.mg X.base CX0 lv fa fd ps (spP X.w X.K ps.length F) ∧ PySem.W.keepIn X.K (.ref fa) = true ∧ Binds X.K fd ps [] ∧ ∀ ds r, F ds = some r → ds.length = ps.length
def HasB (X : Cx) (lv : Nat) (f : Str) (F : FB) : Prop := ∃ fa fd ps, X.mg f = some (.ref fa) ∧ FnOk X.prog X.w X.K X.mg X.base CX0 lv fa fd ps (spB X.w X.K ps.length F) ∧ PySem.W.keepIn X.K (.ref fa) = true ∧ Binds X.K fd ps [] ∧ ∀ xs ds r, F xs ds = some r → ds.length + 1 = ps.length
theorem plain_star : ∀ (es : Es) (as : List Expr), okEs cc es as = true → ∀ (p : Pos) (env : PySem.Env), (backTo p (starEach as env)).any (·.1) = false
  | .nil, [], _, p, env => rfl
  | .nil, _ :: _, h, _, _ => by simp [okEs] at h
  | .cons e es, [], h, _, _ => by simp [okEs] at h
  | .cons e es, a :: as, h, p, env => by
    rw [okEs, Bool.and_eq_true, Bool.and_eq_true] at h
    rw [star_of' h.1.1 as env]
    have ih := plain_star es as h.2 p env
    unfold backTo at ih ⊢
    simp only [List.map_cons, List.any_cons, List.any_map] at ih ⊢
    simpa using ih
theorem s_call (o : OkX cc X lv) {f : Str} {F : FP} (h : HasP X lv f F) (hg : glB cc f = true) {p : Pos} {as : List Expr} {es : Es} (hok : okEs cc es (a :: as) = true) {ds : List D} (ha : PA X (a :: as) (tSA X G bg ρ ds ρ1)) (hF : F ds = some x) :
    PE X (.Call (.Name f p) (a :: as) [] pos) (tS X G bg ρ x ρ1) := by
  obtain ⟨fa, fd, ps, h1, h2, h3, h4, h5⟩ := h
  cases es with
  | nil => simp [okEs] at hok
  | cons e es =>
    rw [okEs, Bool.and_eq_true, Bool.and_eq_true] at hok
    refine (pe_call h2 o.room (o.gl hg) h1 h3 h4 .nil pass0 ha (nm_parts (cc := cc) (gl_plain hg)).1 (star_of' hok.1.1 as X.env) (plain_star es as hok.2 _ _)).mono fun σ H Q ⟨R, q⟩ => ⟨R, fun vs H1 R1 e1 d1 => ?_⟩
    show spP X.w X.K ps.length F (vs ++ []) H1 Q E0
    rw [List.append_nil]
    exact ⟨by rw [d1.length]; exact h5 ds x hF, ds, x, d1, hF, fun v H' k d => q v H' (R1.keep k) (e1.trans (Ext.same k)) d⟩
theorem s_callB (o : OkX cc X lv) {f n : Str} {F : FB} {i : Nat} (h : HasB X lv f F) (hg : glB cc f = true) (hn : nmB cc i n = true) {p p2 : Pos} {as : List Expr} {es : Es} (hok : okEs cc es (a :: as) = true) {ds xs xs' : List D} (hi : isOwn ρ[i]? = true)
    (ha : PA X (a :: as) (tSA X G bg ρ ds ρ1)) (hx : ρ1[i]? = some (.bo xs)) (hF : F xs ds = some (x, xs')) : PE X (.Call (.Name f p) (.Name n p2 :: a :: as) [] pos) (tS X G bg ρ x (ρ1.set i (.bo xs'))) := by
  obtain ⟨fa, fd, ps, h1, h2, h3, h4, h5⟩ := h
  unfold nmB at hn
  simp only [Bool.and_eq_true, decide_eq_true_eq] at hn
  obtain ⟨⟨n1, n2⟩, n3⟩ := hn
  obtain ⟨p1, p2', _⟩ := nm_parts (cc := cc) n2
  have pe : PE X (.Name n p2) (tVar i) := pe_var (by rw [o.n]; exact n1) (o.vis n3) p1 p2'
  refine (pe_call h2 o.room (o.gl hg) h1 h3 h4 .nil pass0 (pa_cons pe ha rfl) (nm_parts (cc := cc) (gl_plain hg)).1 rfl (plain_star es (a :: as) hok _ _)).mono fun σ H Q ⟨R, q⟩ => ?_
  obtain ⟨b, o1, b1, _, _⟩ := R.own_at hi
  refine ⟨.ref b, b1, R, fun vs H1 R1 e1 d1 => ?_⟩
  show spB X.w X.K ps.length F ((.ref b :: vs) ++ []) H1 Q E0
  rw [List.append_nil]
  obtain ⟨b', us, c1, c2, c3⟩ := R1.at_ i _ hx
  rw [b1] at c1; cases c1
  refine ⟨by rw [List.length_cons, d1.length]; exact h5 xs ds _ hF, b, us, xs, vs, ds, x, xs', rfl, c2, c3, d1, hF, fun v H' us' k hb hd d => ?_⟩
  have e2 : Ext H1 H' := ⟨fun c ys hc => k c _ (fun z => by subst z; rw [c2] at hc; cases hc) hc, fun c o' u hc => k c _ (fun z => by subst z; rw [c2] at hc; cases hc) hc⟩
  exact q v H' (R1.write (by rw [hx]; rfl) b1 e2 k ⟨b, us', rfl, hb, hd⟩ (fun z => nomatch z) (fun _ => by rw [hx]; rfl) (fun _ => ⟨us', hb⟩)) (e1.trans e2) d
end
end WM
set_option Elab.async false
set_option linter.all false
set_option maxRecDepth 100000
set_option maxHeartbeats 4000000
/-! WmJ: built-in functions of one and two arguments. -/
namespace WM
open PySem PySem.Spec PyProof.Rows L2 PySem.W PySem.SeqAt

section
variable {cc : CC} {X : Cx} {lv : Nat} {G : Hp} {bg : Option Addr} {ρ ρ1 ρ2 ρ3 : Env} {a b c : Expr} {x y z : D} {pos : Pos}
/-- what a function of one datum hands back, when it only lays new things -/
def rFn (X : Cx) (g : D → Option D) : List V → Hp → VK → Prop := fun vs H Q => ∃ v d z, vs = [v] ∧ Dx X H v d ∧ g d = some z ∧ ∀ w H', (∀ p o, H p = some o → H' p = some o) → Dx X H' w z → Q w H'
theorem s_fnB (o : OkX cc X lv) {n : Str} {id : String} {g : D → Option D} (hc : CallR X (.builtin id) (rFn X g)) (hg : glB cc n = true) (hb : n ∈ bnames) (hv : bootBuiltins n = some (.builtin id)) (hs : notStar a = true) {p : Pos}
    (ha : PE X a (tS X G bg ρ x ρ1)) (hz : g x = some z) : PE X (.Call (.Name n p) [a] [] pos) (tS X G bg ρ z ρ1) :=
  (pe_callB hc (o.gl hg) (o.blt n hb) hv (pa_cons ha pa_nil (star_of' hs [] X.env)) (nm_parts (cc := cc) (gl_plain hg)).2.2 (nm_parts (cc := cc) (gl_plain hg)).1 (star_of' hs [] X.env) rfl).mono
    fun σ H Q ⟨R, q⟩ => ⟨R, fun v H1 R1 e1 d1 => ⟨v, x, z, rfl, d1, hz, fun w H' k d => q w H' (R1.keep k) (e1.trans (Ext.same k)) d⟩⟩
theorem s_fnT (o : OkX cc X lv) {n : Str} {T : String} {g : D → Option D} (hc : CallR X (.type T) (rFn X g)) (hg : glB cc n = true) (hb : n ∈ bnames) (hv : bootBuiltins n = some (.type T)) (hs : notStar a = true) {p : Pos}
    (ha : PE X a (tS X G bg ρ x ρ1)) (hz : g x = some z) : PE X (.Call (.Name n p) [a] [] pos) (tS X G bg ρ z ρ1) :=
  (pe_callTy hc (o.gl hg) (o.blt n hb) hv (pa_cons ha pa_nil (star_of' hs [] X.env)) (nm_parts (cc := cc) (gl_plain hg)).2.2 (nm_parts (cc := cc) (gl_plain hg)).1 (star_of' hs [] X.env) rfl).mono
    fun σ H Q ⟨R, q⟩ => ⟨R, fun v H1 R1 e1 d1 => ⟨v, x, z, rfl, d1, hz, fun w H' k d => q w H' (R1.keep k) (e1.trans (Ext.same k)) d⟩⟩
/-- a new list that is frozen at once -/
theorem fin_lst {pins : List (Addr × Obj)} {σ : L2.St} {H : Hp} {s' : Shared} {Q : VK} {p : Addr} {vs : List V} {ds : List D} (I : Inv X pins σ (upd H p (.lst vs)) s') (hp : H p = none) (hd : Dxs X H vs ds)
    (q : ∀ w H', (∀ b o, H b = some o → H' b = some o) → Dx X H' w (.list ds) → Q w H') : EP X pins σ Q (.ref p) s' := by
  obtain ⟨o, J⟩ := freeze_lst I upd_same
  rw [upd_upd] at J
  exact ⟨.ref p, _, J, rfl, q _ _ (same_upd hp) (.lst upd_same (hd.ext (Ext.new hp)))⟩
theorem fin_tup {pins : List (Addr × Obj)} {σ : L2.St} {H : Hp} {s' : Shared} {Q : VK} {p : Addr} {vs : List V} {ds : List D} (I : Inv X pins σ (upd H p (.tup vs)) s') (hp : H p = none) (hd : Dxs X H vs ds)
    (q : ∀ w H', (∀ b o, H b = some o → H' b = some o) → Dx X H' w (.tuple ds) → Q w H') : EP X pins σ Q (.ref p) s' :=
  ⟨.ref p, _, I, rfl, q _ _ (same_upd hp) (.tup (.inl (.inl upd_same)) (hd.ext (Ext.new hp)))⟩
theorem line_le {n : Nat} (h : n ≤ sizeLine) : n ≤ 16777216 := by rw [sizeLine_eq] at h; exact h

/-! len -/
theorem c_len : CallR X (.builtin "len") (rFn X (evFn .len)) := by
  rintro pins s σ H vs us Q I r ⟨v, d, z, rfl, dv, hz, q⟩
  cases d with
  | tuple ds =>
    cases hz
    obtain ⟨p, xs, rfl, h1, h2⟩ := tup_of dv
    exact call_len pins s σ H _ us Q I r ⟨_, xs.length, rfl, .inr ⟨xs, h1, rfl⟩, by rw [h2.length]; exact q _ _ (fun _ _ e => e) (.int _)⟩
  | list ds =>
    cases hz
    obtain ⟨p, xs, rfl, h1, h2⟩ := lst_of dv
    exact call_len pins s σ H _ us Q I r ⟨_, xs.length, rfl, .inl ⟨xs, .inl h1, rfl⟩, by rw [h2.length]; exact q _ _ (fun _ _ e => e) (.int _)⟩
  | dict kvs =>
    cases hz
    obtain ⟨p, es, rfl, h1, h2, h3⟩ := dct_of dv
    obtain ⟨u, rfl, ru⟩ := vals1 r
    cases ru
    obtain ⟨hd, o, ep, e1, e2, e3⟩ := dx_rd I h1
    have hn : es.size = kvs.length := by rw [← h2.length, Array.length_toList]
    refine call_len_slot (n := kvs.length) ⟨o, e1, e2.1⟩ PySem.F.slot_dict_len (fun Q' hq => call_len_raw hd ⟨o, e1, e2, e3⟩ (by rw [hn]; exact hq)) (by omega) (by have := h3.few; omega) ?_
    exact ⟨.int _, H, I.tok _, ⟨_, rfl⟩, q _ _ (fun _ _ e => e) (.int _)⟩
  | str x =>
    simp only [evFn] at hz
    split at hz
    · rename_i hl
      cases hz
      cases dv
      exact call_len pins s σ H _ us Q I r ⟨_, x.length, rfl, ⟨few_of (m := 0) hl, rfl⟩, q _ _ (fun _ _ e => e) (.int _)⟩
    · cases hz
  | _ => cases hz
/-! int, abs -/
theorem c_int : CallR X (.type "int") (rFn X (evFn .int)) := by
  rintro pins s σ H vs us Q I r ⟨v, d, z, rfl, dv, hz, q⟩
  cases d with
  | int i => cases hz; cases dv; exact call_int1 pins s σ H _ us Q I r (.inl ⟨i, rfl, q _ _ (fun _ _ e => e) (.int _)⟩)
  | bool k => cases hz; cases dv; exact call_int1 pins s σ H _ us Q I r (.inr ⟨k, rfl, q _ _ (fun _ _ e => e) (.int _)⟩)
  | _ => cases hz
theorem c_abs : CallR X (.builtin "abs") (rFn X (evFn .abs)) := by
  rintro pins s σ H vs us Q I r ⟨v, d, z, rfl, dv, hz, q⟩
  cases d with
  | int i => cases hz; cases dv; exact call_abs pins s σ H _ us Q I r ⟨i, rfl, q _ _ (fun _ _ e => e) (.int _)⟩
  | _ => cases hz
/-! tuple, list -/
theorem c_tuple : CallR X (.type "tuple") (rFn X (evFn .tuple)) := by
  rintro pins s σ H vs us Q I r ⟨v, d, z, rfl, dv, hz, q⟩
  cases d with
  | tuple ds =>
    cases hz
    obtain ⟨p, xs, rfl, h1, h2⟩ := tup_of dv
    exact call_tuple_of pins s σ H _ us Q I r ⟨p, xs, rfl, .inr ⟨h1, q _ _ (fun _ _ e => e) (.tup h1 h2)⟩⟩
  | list ds =>
    cases hz
    obtain ⟨p, xs, rfl, h1, h2⟩ := lst_of dv
    exact call_tuple_of pins s σ H _ us Q I r ⟨p, xs, rfl, .inl ⟨.inl h1, fun l hl => q _ _ (same_upd hl) (.tup (.inl (.inl upd_same)) (h2.ext (Ext.new hl)))⟩⟩
  | _ => cases hz
theorem c_list : CallR X (.type "list") (rFn X (evFn .list)) := by
  rintro pins s σ H vs us Q I r ⟨v, d, z, rfl, dv, hz, q⟩
  have go : ∀ (p : Addr) (xs : List V) (ds : List D), v = .ref p → (SqL X.K H p xs ∨ SqT X.K H p xs) → Dxs X H xs ds → z = .list ds → wpAny (model X.prog X.w) X.A (call (.type "list") us) (EP X pins σ Q) X.xe s := by
    rintro p xs ds rfl h1 h2 rfl
    refine thn (call_list_of pins s σ H _ us (fun w H' => ∃ l, w = .ref l ∧ H l = none ∧ H' = upd H l (.lst xs)) I r ⟨p, xs, rfl, h1, fun l hl => ⟨l, rfl, hl, rfl⟩⟩) fun u s' ⟨w, H', I', rw', l, e1, e2, e3⟩ => ?_
    subst e1 e3
    cases rw'
    exact fin_lst I' e2 h2 q
  cases d with
  | tuple ds =>
    cases hz
    obtain ⟨p, xs, e, h1, h2⟩ := tup_of dv
    exact go p xs ds e (.inr h1) h2 rfl
  | list ds =>
    cases hz
    obtain ⟨p, xs, e, h1, h2⟩ := lst_of dv
    exact go p xs ds e (.inl (.inl h1)) h2 rfl
  | _ => cases hz
/-! min, max of one -/
theorem allAlike_of {ds : List D} (h : allAlike ds = true) : AllAlike ds := fun d hd d' hd' => by
  unfold allAlike at h
  rw [List.all_eq_true] at h
  have := h d hd
  rw [List.all_eq_true] at this
  exact this d' hd'
theorem alikeAll_of {d0 : D} {ds : List D} (h : allAlike (d0 :: ds) = true) (hn : (!isNone d0) = true) : AlikeAll (d0 :: ds) := by
  have a := allAlike_of h
  refine ⟨a, fun x hx e => ?_⟩
  exact ne_none_both (a d0 List.mem_cons_self x hx) (fun z => by rw [z] at hn; cases hn) e
/-- the items of a tuple or list, as they read -/
theorem seq_reads {pins : List (Addr × Obj)} {σ : L2.St} {H : Hp} {s : Shared} (I : Inv X pins σ H s) {d : D} {ds : List D} {v : V} (h : items d = some ds) (dv : Dx X H v d) (hp : PyData.plainAll ds = true) :
    ∃ p xs its as, v = .ref p ∧ Dxs X H xs ds ∧ Vals xs its ∧ ReadsAll s.heap its ds as ∧ ((∃ n, s.heap.get? p = some { cls := .type "list", data := .seq its.toArray n }) ∨ IsTup s.heap p its.toArray) ∧ xs.length ≤ sizeLine := by
  cases d with
  | tuple ds' =>
    cases h
    obtain ⟨p, xs, rfl, h1, h2⟩ := tup_of dv
    obtain ⟨its, rv, ht, hz⟩ := I.tuple h1
    obtain ⟨as, ra⟩ := reads_ofA I _ _ _ h2 hp rv
    exact ⟨p, xs, its, as, rfl, h2, rv, ra, .inr ht, hz⟩
  | list ds' =>
    cases h
    obtain ⟨p, xs, rfl, h1, h2⟩ := lst_of dv
    obtain ⟨hz, its, n, rv, _, ht⟩ := lstR I h1
    obtain ⟨as, ra⟩ := reads_ofA I _ _ _ h2 hp rv
    exact ⟨p, xs, its, as, rfl, h2, rv, ra, .inl ⟨n, ht⟩, hz⟩
  | _ => cases h
theorem isL_of {h : Heap} {p : Addr} {its : List Value} {n : Nat} (e : h.get? p = some { cls := .type "list", data := .seq its.toArray n }) : h.IsList p its.toArray := ⟨_, e, rfl, n, rfl⟩
/-- one of the items is handed back -/
theorem pick_item {pins : List (Addr × Obj)} {σ : L2.St} {H : Hp} {s : Shared} (I : Inv X pins σ H s) {xs : List V} {ds : List D} {its : List Value} (h2 : Dxs X H xs ds) (rv : Vals xs its) (hp : PyData.plainAll ds = true) {i : Nat} {u : Value} {m : D} {h' : Heap} {bs : List Addr}
    (hi : its.toArray[i]? = some u) (kp : ∀ b o, s.heap.get? b = some o → h'.get? b = some o) (hr : Reads h' u m bs) : ∃ w, RelV w u ∧ Dx X H w m := by
  have hi' : its[i]? = some u := by simpa using hi
  cases hx : xs[i]? with
  | none => rw [rv.none_of hx] at hi'; cases hi'
  | some w =>
    obtain ⟨u', e1, e2⟩ := rv.get hx
    rw [hi'] at e1; cases e1
    obtain ⟨d, e3, e4⟩ := h2.getV hx
    have pd : d.plain = true := by
      have : ∀ (l : List D) (j : Nat) (e : D), PyData.plainAll l = true → l[j]? = some e → e.plain = true := by
        intro l
        induction l with
        | nil => intro j e _ h; simp at h
        | cons y l ih =>
          intro j e h he
          rw [PyData.plainAll, Bool.and_eq_true] at h
          cases j with
          | zero => simp at he; subst he; exact h.1
          | succ j => exact ih j e h.2 (by simpa using he)
      exact this _ _ _ hp e3
    obtain ⟨as, q⟩ := reads_of I d w u e4 pd e2
    have := (Reads.unique (Reads.keeps kp q) m bs hr).1
    subst this
    exact ⟨w, e2, e4⟩
theorem c_min (hr : Room lv X.A) (hc : X.calm = true) : CallR X (.builtin "min") (rFn X (evFn .min)) := by
  rintro pins s σ H vs us Q I r ⟨v, d, z, rfl, dv, hz, q⟩
  obtain ⟨u, rfl, ru⟩ := vals1 r
  have hz : (items d).bind minL = some z := hz
  obtain ⟨ds, hi, hz⟩ := Option.bind_eq_some_iff.mp hz
  cases ds with
  | nil => cases hz
  | cons d0 ds =>
    simp only [minL] at hz
    split at hz
    · rename_i h
      cases hz
      simp only [Bool.and_eq_true, decide_eq_true_eq] at h
      obtain ⟨p, xs, its, as, rfl, h1, h2, h3, h4, _⟩ := seq_reads I hi dv h.1.1.2
      cases ru
      have hu : X.A.units + 1 + PyData.depthAll (d0 :: ds) < cLine := by have := hr.un; have := h.1.2; omega
      have fin : ∀ (i : Nat) (v : Value) (h' : Heap) (tk : Nat) (bs : List Addr), its.toArray[i]? = some v → Reads h' v (minD d0 ds) bs → (∀ b o, s.heap.get? b = some o → h'.get? b = some o) → EP X pins σ Q v { s with heap := h', toks := tk } := fun i v h' tk bs e1 e2 kp => by
        obtain ⟨w, r1, r2⟩ := pick_item I h1 h2 h.1.1.2 e1 kp e2
        exact ⟨w, H, I.kept kp, r1, q _ _ (fun _ _ e => e) r2⟩
      rcases h4 with ⟨n, h4⟩ | h4
      · exact min_list_data (I.ok.hd hc) (isL_of h4) (by simpa using h3) (alikeAll_of h.1.1.1 h.2) hu fin
      · exact min_tuple_data (I.ok.hd hc) h4 (by simpa using h3) (alikeAll_of h.1.1.1 h.2) hu fin
    · cases hz
theorem c_max (hr : Room lv X.A) (hc : X.calm = true) : CallR X (.builtin "max") (rFn X (evFn .max)) := by
  rintro pins s σ H vs us Q I r ⟨v, d, z, rfl, dv, hz, q⟩
  obtain ⟨u, rfl, ru⟩ := vals1 r
  have hz : (items d).bind maxL = some z := hz
  obtain ⟨ds, hi, hz⟩ := Option.bind_eq_some_iff.mp hz
  cases ds with
  | nil => cases hz
  | cons d0 ds =>
    simp only [maxL] at hz
    split at hz
    · rename_i h
      cases hz
      simp only [Bool.and_eq_true, decide_eq_true_eq] at h
      obtain ⟨p, xs, its, as, rfl, h1, h2, h3, h4, _⟩ := seq_reads I hi dv h.1.1.2
      cases ru
      have hu : X.A.units + 1 + PyData.depthAll (d0 :: ds) < cLine := by have := hr.un; have := h.1.2; omega
      have fin : ∀ (i : Nat) (v : Value) (h' : Heap) (tk : Nat) (bs : List Addr), its.toArray[i]? = some v → Reads h' v (maxD d0 ds) bs → (∀ b o, s.heap.get? b = some o → h'.get? b = some o) → EP X pins σ Q v { s with heap := h', toks := tk } := fun i v h' tk bs e1 e2 kp => by
        obtain ⟨w, r1, r2⟩ := pick_item I h1 h2 h.1.1.2 e1 kp e2
        exact ⟨w, H, I.kept kp, r1, q _ _ (fun _ _ e => e) r2⟩
      rcases h4 with ⟨n, h4⟩ | h4
      · exact max_list_data (I.ok.hd hc) (isL_of h4) (by simpa using h3) (alikeAll_of h.1.1.1 h.2) hu fin
      · exact max_tuple_data (I.ok.hd hc) h4 (by simpa using h3) (alikeAll_of h.1.1.1 h.2) hu fin
    · cases hz
/-! all, any of a list of truths -/
theorem bools_fit {ds : List D} (h : ds.all (fun d => match d with | .bool _ => true | _ => false) = true) : ∀ d ∈ ds, d.fits63 := fun d hd => by
  rw [List.all_eq_true] at h
  have := h d hd
  cases d <;> first | exact True.intro | cases this
theorem c_all (hc : X.calm = true) : CallR X (.builtin "all") (rFn X (evFn .all)) := by
  rintro pins s σ H vs us Q I r ⟨v, d, z, rfl, dv, hz, q⟩
  obtain ⟨u, rfl, ru⟩ := vals1 r
  cases d with
  | list ds =>
    simp only [evFn] at hz
    split at hz
    · rename_i h
      cases hz
      rw [Bool.and_eq_true] at h
      obtain ⟨p, xs, its, as, rfl, h1, h2, h3, h4, _⟩ := seq_reads I (d := .list ds) rfl dv h.1
      cases ru
      rcases h4 with ⟨n, h4⟩ | h4
      · exact all_list_data (I.ok.hd hc) (isL_of h4) (by simpa using h3) h.1 (bools_fit h.2) fun h' tk kp => ⟨.bl _, H, I.kept kp, rfl, q _ _ (fun _ _ e => e) (.bl _)⟩
      · exact all_tuple_data (I.ok.hd hc) h4 (by simpa using h3) h.1 (bools_fit h.2) fun h' tk kp => ⟨.bl _, H, I.kept kp, rfl, q _ _ (fun _ _ e => e) (.bl _)⟩
    · cases hz
  | _ => cases hz
theorem c_any (hc : X.calm = true) : CallR X (.builtin "any") (rFn X (evFn .any)) := by
  rintro pins s σ H vs us Q I r ⟨v, d, z, rfl, dv, hz, q⟩
  obtain ⟨u, rfl, ru⟩ := vals1 r
  cases d with
  | list ds =>
    simp only [evFn] at hz
    split at hz
    · rename_i h
      cases hz
      rw [Bool.and_eq_true] at h
      obtain ⟨p, xs, rfl, h1, h2⟩ := lst_of dv
      obtain ⟨_, its, n, rv, _, h4⟩ := lstR I h1
      obtain ⟨as, ra⟩ := reads_ofA I _ _ _ h2 h.1 rv
      cases ru
      exact any_list_data (I.ok.hd hc) (isL_of h4) (by simpa using ra) h.1 (bools_fit h.2) fun h' tk kp => ⟨.bl _, H, I.kept kp, rfl, q _ _ (fun _ _ e => e) (.bl _)⟩
    · cases hz
  | _ => cases hz
/-! sum of a list of whole numbers -/
def numD : D → Int | .int i => i | _ => 0
theorem sumI_steps : ∀ (ds : List D) (acc t : Int), sumI acc ds = some t → (∀ (j : Nat) (d : D), ds[j]? = some d → d = .int (numD d) ∧ InLong (numD d)) ∧ ∀ val : Nat → Int, (∀ j, val j = numD (ds.getD j .none)) → (∀ j, j < ds.length → InLong (acc + preSum val (j + 1))) ∧ t = acc + preSum val ds.length
  | [], acc, t, h => by
    cases h
    exact ⟨fun j d h => by simp at h, fun val _ => ⟨fun j hj => absurd hj (Nat.not_lt_zero _), by simp [preSum]⟩⟩
  | d :: ds, acc, t, h => by
    cases d with
    | int i =>
      simp only [sumI] at h
      split at h
      · rename_i hl
        simp only [Bool.and_eq_true, inLong, decide_eq_true_eq] at hl
        obtain ⟨a, b⟩ := sumI_steps ds (acc + i) t h
        refine ⟨fun j e he => ?_, fun val hv => ?_⟩
        · cases j with
          | zero =>
            simp at he; subst he
            refine ⟨rfl, ?_⟩
            show InLong i
            unfold InLong; omega
          | succ j => exact a j e (by simpa using he)
        · obtain ⟨b1, b2⟩ := b (fun j => val (j + 1)) fun j => by rw [hv]; rfl
          have h0 : val 0 = i := by rw [hv]; rfl
          have ps : ∀ n, preSum val (n + 1) = i + preSum (fun j => val (j + 1)) n := by
            intro n
            induction n with
            | zero => simp [preSum, h0]
            | succ n ih => rw [preSum, ih, preSum]; omega
          refine ⟨fun j hj => ?_, ?_⟩
          · rw [ps, ← Int.add_assoc]
            cases j with
            | zero => simp only [preSum]; unfold InLong; omega
            | succ j => exact b1 j (by simpa using hj)
          · rw [b2, List.length_cons, ps]; omega
      · cases h
    | _ => cases h
theorem c_sum (hc : X.calm = true) : CallR X (.builtin "sum") (rFn X (evFn .sum)) := by
  rintro pins s σ H vs us Q I r ⟨v, d, z, rfl, dv, hz, q⟩
  obtain ⟨u, rfl, ru⟩ := vals1 r
  cases d with
  | list ds =>
    have hz : (sumI 0 ds).map PyData.int = some z := hz
    obtain ⟨t, ht, rfl⟩ := Option.map_eq_some_iff.mp hz
    obtain ⟨s1, s2⟩ := sumI_steps ds 0 t ht
    obtain ⟨s3, s4⟩ := s2 (fun j => numD (ds.getD j .none)) fun _ => rfl
    obtain ⟨p, xs, rfl, h1, h2⟩ := lst_of dv
    obtain ⟨_, its, n, rv, hl, h4⟩ := lstR I h1
    cases ru
    have hlen : its.toArray.size = ds.length := by rw [List.size_toArray, ← hl, h2.length]
    refine call_sum_walkS (iter_listW (I.ok.hd hc) (isL_of h4) fun s₂ e W st hfp hw hk => ?_)
    refine ⟨_, _, _, _, _, _, _, fun j => numD (ds.getD j .none), rfl, W, st, hfp, fun i u hi => ?_, fun j hj => ?_, fun s' t' m => ?_⟩
    · have hi' : its[i]? = some u := by simpa using hi
      cases hx : xs[i]? with
      | none => rw [rv.none_of hx] at hi'; cases hi'
      | some w =>
        obtain ⟨u', e1, e2⟩ := rv.get hx
        rw [hi'] at e1; cases e1
        obtain ⟨d, e3, e4⟩ := h2.getV hx
        obtain ⟨e5, _⟩ := s1 i d e3
        rw [e5] at e4
        cases e4
        obtain ⟨t, rfl⟩ := e2
        have e6 : ds.getD i .none = d := by rw [List.getD_eq_getElem?_getD, e3]; rfl
        exact ⟨t, by show _ = Value.int (numD (ds.getD i .none)) t; rw [e6]⟩
    · rw [hlen] at hj
      have := s3 j hj
      rw [Int.zero_add] at this
      refine ⟨?_, this⟩
      have e3 : ds[j]? = some (ds.getD j .none) := by rw [List.getD_eq_getElem?_getD, List.getElem?_eq_getElem hj]; rfl
      exact (s1 j _ e3).2
    · obtain ⟨h', tk, rfl, hk'⟩ := moved_old e rfl m
      refine ⟨.int t, H, I.kept hk', ⟨t', ?_⟩, q _ _ (fun _ _ e => e) (.int _)⟩
      rw [s4, hlen, Int.zero_add]
  | _ => cases hz

/-! min, max of two -/
theorem readsTwo {h : Heap} {u w : Value} {d e : D} {as bs : List Addr} (r1 : Reads h u d as) (r2 : Reads h w e bs) : ReadsAll h (#[u, w] : Array Value).toList [d, e] (as ++ (bs ++ [])) := .cons r1 (.cons r2 .nil)
theorem c_min2 (hr : Room lv X.A) (hc : X.calm = true) : CallR X (.builtin "min") (fun vs H Q => ∃ v u d e z, vs = [v, u] ∧ Dx X H v d ∧ Dx X H u e ∧ evFn2 .min d e = some z ∧ ∀ w, Dx X H w z → Q w H) := by
  rintro pins s σ H vs us Q I r ⟨v, u, d, e, z, rfl, dv, du, hz, q⟩
  obtain ⟨u1, u2, rfl, r1, r2⟩ := vals2 r
  simp only [evFn2, minL] at hz
  split at hz
  · rename_i h
    cases hz
    simp only [Bool.and_eq_true, decide_eq_true_eq] at h
    have hp : d.plain = true ∧ e.plain = true := by
      have := h.1.1.2
      simp only [PyData.plainAll, Bool.and_eq_true] at this
      exact ⟨this.1, this.2.1⟩
    have h1 : Dxs X H [v, u] [d, e] := .cons dv (.cons du .nil)
    have h2 : Vals [v, u] [u1, u2] := .cons r1 (.cons r2 .nil)
    obtain ⟨as, h3⟩ := reads_ofA I _ _ _ h1 h.1.1.2 h2
    have hT : (s.heap.push { cls := .type "tuple", data := .seq #[u1, u2] }).IsTuple s.heap.objs.size #[u1, u2] := ⟨_, Heap.get?_push_size _ rfl, rfl, 0, rfl⟩
    have kp : ∀ b o, s.heap.get? b = some o → (s.heap.push { cls := .type "tuple", data := .seq #[u1, u2] }).get? b = some o := fun b o e => Heap.get?_push_of_some _ e
    have hname : (toString "min" ++ toString ".loop" : String) = "min.loop" := by decide
    refine call_function_tree PySem.F.kind_min PySem.F.plain_min PySem.F.entry_min (PySem.F.args_min2 _ _) ?_
    show wpAny _ X.A.in1 (Builtin.Builtins.bindParams "min" ["key", "default"] 0 ⟨[], []⟩ >>= _) _ _ s
    refine wpAny_bind (wpAny_of_eq (show Builtin.Builtins.bindParams "min" ["key", "default"] 0 ⟨[], []⟩ = pure [none, none] from rfl) ?_)
    show wpAny _ X.A.in1 (newTuple [u1, u2] >>= _) _ _ s
    refine wpAny_bind (wpAny_newObj_type ?_)
    refine wpAny_bind (iter_tupleW (A := X.A.in1) (s := { s with heap := s.heap.push { cls := .type "tuple", data := .seq #[u1, u2] } }) (I.ok.hd hc) hT fun s₂ e2 W st hfp hw hk => ?_)
    refine wpAny_bind (wpAny_newObj_type ?_)
    rw [hname]
    have hr1 : ReadsAll ({ s with heap := s.heap.push { cls := .type "tuple", data := .seq #[u1, u2] } } : Shared).heap (#[u1, u2] : Array Value).toList [d, e] as := ReadsAll.keeps kp h3
    have hu : X.A.in1.units + PyData.depthAll [d, e] < cLine := by have := hr.un; have := h.1.2; show X.A.units + 1 + _ < _; omega
    have cmp := cmpIn_lt (prog := X.prog) (w := X.w) (A := X.A.in1) hr1 (alikeAll_of h.1.1.1 h.2) hu
    have hSf : s₂.heap.objs.size ∉ [(s.heap.push { cls := .type "tuple", data := .seq #[u1, u2] }).objs.size, s.heap.objs.size] := fun hm => Nat.lt_irrefl _ (hfp _ hm)
    refine wpAny_pure ⟨plainId_quiet PySem.F.plain_min_loop _, codeAny_min_loop_firstH W _ hw _ cmp s₂.heap.objs.size hSf (fresh_in hk) _ (show 0 < 2 by decide) (fun b o e => Heap.get?_push_of_some _ (hk b o e)) (W.frame 0 s₂ _ s₂.toks st (Nat.le_refl _) fun b _ o e => Heap.get?_push_of_some _ e) (Heap.get?_push_size _ rfl) fun v' s' hP hm => ?_⟩
    have m := Moved.drop_new (tk := s₂.toks) hm (Nat.le_refl _)
    obtain ⟨h', tk, rfl, hk'⟩ := moved_old e2 rfl m
    obtain ⟨bs, r, _, _, _⟩ := readsAll_atA hr1 _ v' hP
    have e3 := (argBest_fold dataLt PyData.none d [e] [e].length (Nat.le_refl _)).2
    rw [List.take_length] at e3
    have r' : Reads h' v' (minD d [e]) bs := reads_keeps hk' (by unfold minD; rw [← e3]; exact r)
    obtain ⟨w, w1, w2⟩ := pick_item I h1 h2 h.1.1.2 hP (fun b o eb => hk' b o (kp b o eb)) r'
    exact ⟨w, H, I.kept fun b o eb => hk' b o (kp b o eb), w1, q _ w2⟩
  · cases hz
theorem c_max2 (hr : Room lv X.A) (hc : X.calm = true) : CallR X (.builtin "max") (fun vs H Q => ∃ v u d e z, vs = [v, u] ∧ Dx X H v d ∧ Dx X H u e ∧ evFn2 .max d e = some z ∧ ∀ w, Dx X H w z → Q w H) := by
  rintro pins s σ H vs us Q I r ⟨v, u, d, e, z, rfl, dv, du, hz, q⟩
  obtain ⟨u1, u2, rfl, r1, r2⟩ := vals2 r
  simp only [evFn2, maxL] at hz
  split at hz
  · rename_i h
    cases hz
    simp only [Bool.and_eq_true, decide_eq_true_eq] at h
    have hp : d.plain = true ∧ e.plain = true := by
      have := h.1.1.2
      simp only [PyData.plainAll, Bool.and_eq_true] at this
      exact ⟨this.1, this.2.1⟩
    have h1 : Dxs X H [v, u] [d, e] := .cons dv (.cons du .nil)
    have h2 : Vals [v, u] [u1, u2] := .cons r1 (.cons r2 .nil)
    obtain ⟨as, h3⟩ := reads_ofA I _ _ _ h1 h.1.1.2 h2
    have hT : (s.heap.push { cls := .type "tuple", data := .seq #[u1, u2] }).IsTuple s.heap.objs.size #[u1, u2] := ⟨_, Heap.get?_push_size _ rfl, rfl, 0, rfl⟩
    have kp : ∀ b o, s.heap.get? b = some o → (s.heap.push { cls := .type "tuple", data := .seq #[u1, u2] }).get? b = some o := fun b o e => Heap.get?_push_of_some _ e
    have hname : (toString "max" ++ toString ".loop" : String) = "max.loop" := by decide
    refine call_function_tree PySem.F.kind_max PySem.F.plain_max PySem.F.entry_max (PySem.F.args_max2 _ _) ?_
    show wpAny _ X.A.in1 (Builtin.Builtins.bindParams "max" ["key", "default"] 0 ⟨[], []⟩ >>= _) _ _ s
    refine wpAny_bind (wpAny_of_eq (show Builtin.Builtins.bindParams "max" ["key", "default"] 0 ⟨[], []⟩ = pure [none, none] from rfl) ?_)
    show wpAny _ X.A.in1 (newTuple [u1, u2] >>= _) _ _ s
    refine wpAny_bind (wpAny_newObj_type ?_)
    refine wpAny_bind (iter_tupleW (A := X.A.in1) (s := { s with heap := s.heap.push { cls := .type "tuple", data := .seq #[u1, u2] } }) (I.ok.hd hc) hT fun s₂ e2 W st hfp hw hk => ?_)
    refine wpAny_bind (wpAny_newObj_type ?_)
    rw [hname]
    have hr1 : ReadsAll ({ s with heap := s.heap.push { cls := .type "tuple", data := .seq #[u1, u2] } } : Shared).heap (#[u1, u2] : Array Value).toList [d, e] as := ReadsAll.keeps kp h3
    have hu : X.A.in1.units + PyData.depthAll [d, e] < cLine := by have := hr.un; have := h.1.2; show X.A.units + 1 + _ < _; omega
    have cmp := cmpIn_gt (prog := X.prog) (w := X.w) (A := X.A.in1) hr1 (alikeAll_of h.1.1.1 h.2) hu
    have hSf : s₂.heap.objs.size ∉ [(s.heap.push { cls := .type "tuple", data := .seq #[u1, u2] }).objs.size, s.heap.objs.size] := fun hm => Nat.lt_irrefl _ (hfp _ hm)
    refine wpAny_pure ⟨plainId_quiet PySem.F.plain_max_loop _, codeAny_max_loop_firstH W _ hw _ cmp s₂.heap.objs.size hSf (fresh_in hk) _ (show 0 < 2 by decide) (fun b o e => Heap.get?_push_of_some _ (hk b o e)) (W.frame 0 s₂ _ s₂.toks st (Nat.le_refl _) fun b _ o e => Heap.get?_push_of_some _ e) (Heap.get?_push_size _ rfl) fun v' s' hP hm => ?_⟩
    have m := Moved.drop_new (tk := s₂.toks) hm (Nat.le_refl _)
    obtain ⟨h', tk, rfl, hk'⟩ := moved_old e2 rfl m
    obtain ⟨bs, r, _, _, _⟩ := readsAll_atA hr1 _ v' hP
    have e3 := (argBest_fold (fun x y => dataLt y x) PyData.none d [e] [e].length (Nat.le_refl _)).2
    rw [List.take_length] at e3
    have r' : Reads h' v' (maxD d [e]) bs := reads_keeps hk' (by unfold maxD; rw [← e3]; exact r)
    obtain ⟨w, w1, w2⟩ := pick_item I h1 h2 h.1.1.2 hP (fun b o eb => hk' b o (kp b o eb)) r'
    exact ⟨w, H, I.kept fun b o eb => hk' b o (kp b o eb), w1, q _ w2⟩
  · cases hz
theorem s_fn2 (o : OkX cc X lv) (f : Fn2) {p : Pos} (hg : glB cc (fn2Name f) = true) (h1 : notStar a = true) (h2 : notStar b = true) (ha : PE X a (tS X G bg ρ x ρ1)) (hb : PE X b (tS X G bg ρ1 y ρ2)) (hz : evFn2 f x y = some z) :
    PE X (.Call (.Name (fn2Name f) p) [a, b] [] pos) (tS X G bg ρ z ρ2) := by
  cases f with
  | min => exact (pe_callB (c_min2 o.room o.calm) (o.gl hg) (o.blt _ (by decide +kernel)) (by decide +kernel) (pa_cons ha (pa_cons hb pa_nil (star_of' h2 [] X.env)) (star_of' h1 [b] X.env)) (by decide) (by decide) (star_of' h1 [b] X.env) (by rw [star_of' h2 [] X.env]; rfl)).mono fun σ H Q ⟨R, q⟩ => ⟨R, fun v H1 R1 e1 d1 => ⟨R1, fun u H2 R2 e2 d2 => ⟨v, u, x, y, z, rfl, d1.ext e2, d2, hz, fun w d => q w H2 R2 (e1.trans e2) d⟩⟩⟩
  | max => exact (pe_callB (c_max2 o.room o.calm) (o.gl hg) (o.blt _ (by decide +kernel)) (by decide +kernel) (pa_cons ha (pa_cons hb pa_nil (star_of' h2 [] X.env)) (star_of' h1 [b] X.env)) (by decide) (by decide) (star_of' h1 [b] X.env) (by rw [star_of' h2 [] X.env]; rfl)).mono fun σ H Q ⟨R, q⟩ => ⟨R, fun v H1 R1 e1 d1 => ⟨R1, fun u H2 R2 e2 d2 => ⟨v, u, x, y, z, rfl, d1.ext e2, d2, hz, fun w d => q w H2 R2 (e1.trans e2) d⟩⟩⟩
end
end WM
set_option Elab.async false
set_option linter.all false
set_option maxRecDepth 100000
set_option maxHeartbeats 4000000
/-! WmK: sorted; a dict's keys and values as a whole. -/
namespace WM
open PySem PySem.Spec PyProof.Rows L2 PySem.W PySem.SeqAt

section
variable {X : Cx} {pins : List (Addr × Obj)} {σ : L2.St} {H : Hp} {s : Shared}
mutual
theorem reads_key (I : Inv X pins σ H s) : ∀ (d : D) (v : V) (u : Value), Dx X H v d → keyd d = true → RelV v u → Reads s.heap u d []
  | .int i, _, _, h, _, r => by cases h; obtain ⟨t, rfl⟩ := r; exact .int i t
  | .str x, _, _, h, _, r => by cases h; obtain ⟨t, rfl⟩ := r; exact .str x t
  | .tuple ds, _, _, h, hp, r => by
    cases h with
    | tup h a =>
      cases r
      obtain ⟨its, rv, ⟨o, e, c, n, dd⟩, _⟩ := I.tuple h
      exact .tuple e c dd (by simpa using reads_keyA I ds _ _ a (by simpa only [keyd] using hp) rv)
  | .none, _, _, _, hp, _ => by simp [keyd] at hp
  | .bool _, _, _, _, hp, _ => by simp [keyd] at hp
  | .list _, _, _, _, hp, _ => by simp [keyd] at hp
  | .dict _, _, _, _, hp, _ => by simp [keyd] at hp
theorem reads_keyA (I : Inv X pins σ H s) : ∀ (ds : List D) (vs : List V) (us : List Value), Dxs X H vs ds → keydL ds = true → Vals vs us → ReadsAll s.heap us ds []
  | [], _, _, h, _, r => by cases h; cases r; exact .nil
  | d :: ds, _, _, h, hp, r => by
    cases h with
    | cons a b =>
      rw [keydL, Bool.and_eq_true] at hp
      cases r with
      | cons r rr => exact .cons (as := []) (bs := []) (reads_key I d _ _ a hp.1 r) (reads_keyA I ds _ _ b hp.2 rr)
end
/-- item by item: a value that is the datum -/
theorem each_of {vs : List V} {ds : List D} {us : List Value} (h : Dxs X H vs ds) (r : Vals vs us) : EachIs (fun u d => ∃ v, RelV v u ∧ Dx X H v d) us ds := by
  revert vs us
  induction ds with
  | nil => intro vs us h r; cases h; cases r; exact .nil
  | cons d ds ih =>
    intro vs us h r
    cases h with
    | cons a b =>
      cases r with
      | cons r rr => exact .cons ⟨_, r, a⟩ (ih b rr)
theorem of_each {ds : List D} : ∀ {us : List Value}, EachIs (fun u d => ∃ v, RelV v u ∧ Dx X H v d) us ds → ∃ vs, Dxs X H vs ds ∧ Vals vs us := by
  induction ds with
  | nil => intro us h; cases h; exact ⟨[], .nil, .nil⟩
  | cons d ds ih =>
    intro us h
    cases h with
    | cons a b =>
      obtain ⟨v, r, dv⟩ := a
      obtain ⟨vs, h1, h2⟩ := ih b
      exact ⟨v :: vs, .cons dv h1, .cons r h2⟩
theorem each_reads {h : Heap} : ∀ {us : List Value} {ds : List D}, ReadsAll h us ds [] → EachIs (fun u d => ∃ as, Reads h u d as ∧ ∀ a, a ∉ as) us ds
  | _, [], r => by cases r; exact .nil
  | _, d :: ds, r => by
    generalize e : ([] : List Addr) = l at r
    cases r with
    | cons r1 r2 =>
      have e' := List.append_eq_nil_iff.mp e.symm
      rw [e'.2] at r2
      exact .cons ⟨_, r1, fun a h => by rw [e'.1] at h; cases h⟩ (each_reads r2)
theorem sortable_of {ds : List D} (h : sortable ds = true) : Sortable ds := by
  unfold sortable at h
  rw [Bool.or_eq_true] at h
  rcases h with h | h
  · refine .inl fun d hd => ?_
    rw [List.all_eq_true] at h
    have := h d hd
    split at this
    · exact ⟨_, _, rfl⟩
    · cases this
  · refine .inr fun d hd => ?_
    rw [List.all_eq_true] at h
    have := h d hd
    rw [Bool.and_eq_true] at this
    exact ⟨(fun z => by rw [z] at this; cases this.1), (fun xs z => by rw [z] at this; cases this.2)⟩
/-- sorted(x), where x's items come so -/
theorem sorted_core {lv : Nat} (hr : Room lv X.A) {x : Value} {vs : List V} {ds : List D} {its : List Value} {Q : VK} (I : Inv X pins σ H s) (h1 : Dxs X H vs ds) (h2 : Vals vs its) (hk : okSort ds = true) (hz : ds.length ≤ sizeLine)
    (hcol : ∀ (Q : List Value → Shared → Prop), (∀ h' tk, (∀ b o, s.heap.get? b = some o → h'.get? b = some o) → Q its { s with heap := h', toks := tk }) → wpAny (model X.prog X.w) X.A.in1 (collect x) Q (fun e s' => X.xe e s') s)
    (q : ∀ w H', (∀ b o, H b = some o → H' b = some o) → Dx X H' w (.list (sortD ds)) → Q w H') : wpAny (model X.prog X.w) X.A (call (.builtin "sorted") [x]) (EP X pins σ Q) X.xe s := by
  simp only [okSort, Bool.and_eq_true, decide_eq_true_eq] at hk
  refine Calls.call_function_entry kind_sorted plain_sorted entry_sorted (args_sorted1 _) ?_
  unfold Builtin.«sorted»
  refine wpAny_bind (m := checkCount "sorted" 1 1 _) (wpAny_pure ?_)
  refine wpAny_bind (hcol _ fun h' tk kp => ?_)
  have hil : its.length = ds.length := by rw [← h2.length, h1.length]
  refine wpAny_bind (wpAny_newList ?_ (by rw [hil]; exact hz))
  have I1 : Inv X pins σ H { s with heap := h', toks := tk } := I.kept kp
  have I2 : Inv X pins σ H { s with heap := h'.push { cls := .type "list", data := .seq its.toArray }, toks := tk } := I1.kept (t' := tk) fun b o e => Heap.get?_push_of_some _ e
  have hL : (h'.push { cls := .type "list", data := .seq its.toArray }).get? h'.objs.size = some (seqObj "list" its.toArray 0) := Heap.get?_push_size _ rfl
  have er := (each_reads (reads_keyA I2 ds vs its h1 hk.1.2 h2)).mono fun u d ⟨as, r, n⟩ => (⟨as, r, n h'.objs.size⟩ : ∃ as, Reads _ u (id d) as ∧ h'.objs.size ∉ as)
  refine wpAny_bind (wpAny_holding (list_sort_data (enc := id) (n := 0) (bs := ds) (R := fun u d => ∃ v, RelV v u ∧ Dx X H v d) (s := { s with heap := h'.push { cls := .type "list", data := .seq its.toArray }, toks := tk }) hL (each_of h1 h2) er (by rw [List.map_id]; exact allAlike_of hk.1.1.1) (by rw [List.map_id]; exact sortable_of hk.1.1.2) hz (fun d hd => ?_) fun out hlen he => ?_))
  · have := PyData.depth_le_depthAll ds d hd
    have := hk.2
    have := hr.un
    show X.A.units + 1 + 1 + d.depth < _
    omega
  · obtain ⟨ws, w1, w2⟩ := of_each he
    obtain ⟨c, hc⟩ := sortedHeap_at (vs := its) (out := out.toArray) hL
    have old : ∀ b o, h'.get? b = some o → (sortedHeap (h'.push { cls := .type "list", data := .seq its.toArray }) h'.objs.size its out.toArray).get? b = some o := fun b o e => by
      have lt := Heap.lt_size e
      rw [sortedHeap_old (Nat.ne_of_lt lt) (by rw [Heap.size_push]; exact Nat.lt_succ_of_lt lt)]
      exact Heap.get?_push_of_some _ e
    refine wpAny_pure ⟨_, rfl, ?_⟩
    have hp : H h'.objs.size = none := I1.hok.fresh (Nat.le_refl _)
    have hwl : ws.length ≤ sizeLine := by rw [w2.length, hlen]; exact hz
    have I3 : Inv X pins σ (upd H h'.objs.size (.lst ws)) { s with heap := sortedHeap (h'.push { cls := .type "list", data := .seq its.toArray }) h'.objs.size its out.toArray, toks := tk } :=
      I1.laid (t' := tk) old (Nat.le_refl _) ⟨hwl, out, c, w2, hc⟩
    exact fin_lst I3 hp w1 q
/-- the items of a dict, as lists -/
theorem dx_items (hc : X.calm = true) (I : Inv X pins σ H s) {a : Addr} {es : Array DictEntry} {kvs : List (D × D)} (h : Rd H a (DX a es)) (r : DnE X.w X.K H es.toList kvs) :
    (∃ vs, Dxs X H vs (kvs.map (·.1)) ∧ Vals vs (es.toList.map (·.key))) ∧ (∃ vs, Dxs X H vs (kvs.map (·.2)) ∧ Vals vs (es.toList.map (·.val))) := by
  have go : ∀ (l : List DictEntry) (m : List (D × D)), DnE X.w X.K H l m → (∃ vs, Dxs X H vs (m.map (·.1)) ∧ Vals vs (l.map (·.key))) ∧ (∃ vs, Dxs X H vs (m.map (·.2)) ∧ Vals vs (l.map (·.val))) := by
    intro l
    induction l with
    | nil => intro m h; cases h; exact ⟨⟨[], .nil, .nil⟩, ⟨[], .nil, .nil⟩⟩
    | cons e l ih =>
      intro m h
      cases h with
      | cons h1 h2 h3 h4 h5 h6 =>
        obtain ⟨⟨vs, a1, a2⟩, ⟨ws, b1, b2⟩⟩ := ih _ h6
        exact ⟨⟨_ :: vs, .cons h3 a1, .cons h2 a2⟩, ⟨_ :: ws, .cons h5 b1, .cons h4 b2⟩⟩
  exact go _ _ r
end
/-- what a source of a list's items gives, collected -/
theorem collect_src {prog : Program} {w : World} {A : Around} {E : Value → Shared → Prop} {s : Shared} {T : String} {r d : Addr} {n : Nat} {P : Nat → Value → Prop} {OK : Heap → Prop} (K : KdlSrc prog w T r d n P OK) (hh : A.handled = none) (hok : OK s.heap) (hn : n ≤ sizeLine) {Q : List Value → Shared → Prop}
    (hQ : ∀ h' tk acc, (∀ b o, s.heap.get? b = some o → h'.get? b = some o) → ItemsOf P acc n → Q acc.toList { s with heap := h', toks := tk }) : wpAny (model prog w) A (collect (.ref r)) Q E s := by
  have hlt := K.there _ hok
  unfold collect
  refine wpAny_bind (wpAny_runValue (codeAny_builtin F.entry_proto_collect ?_))
  rw [Around.under_plainId F.plain_proto_collect _]
  show wpAny _ A.in1 (newList [] >>= fun l => again (.builtin "list.__iadd__" ⟨[l, .ref r], []⟩)) _ _ s
  refine wpAny_bind (wpAny_newObj_type ?_)
  refine wpAny_pure ⟨plainId_quiet F.plain_list_iadd _, codeAny_builtin F.entry_list_iadd ?_⟩
  rw [Around.under_plainId F.plain_list_iadd _]
  show wpAny _ A.in1 (Builtin.List.listExtendWith (.ref s.heap.objs.size) (.ref r) (.ref s.heap.objs.size)) _ _ _
  have hS : (s.heap.push { cls := .type "list", data := .seq ([] : List Value).toArray }).get? s.heap.objs.size = some { cls := .type "list", data := .seq #[] 0 } := Heap.get?_push_size _ rfl
  have fin : ∀ (r : Result) (s' : Shared), (∃ h' tk acc' c', r = .ok (.ret (.ref s.heap.objs.size)) ∧ s' = { s with heap := h', toks := tk } ∧ (∀ b o, s.heap.get? b = some o → h'.get? b = some o) ∧ h'.get? s.heap.objs.size = some { cls := .type "list", dict := none, data := .seq acc' c', slots := #[] } ∧ ItemsOf P acc' n) →
      (match r with | .ok (.ret v) => wpAny (model prog w) A (match v with
          | Value.ref a => do
            match (← load a).data with
              | Data.seq xs _ => pure xs.toList
              | _ => unsupported "internal:collect"
          | _ => unsupported "internal:collect") Q E s' | .ok _ => False | .error e => E e s') := by
    rintro r s' ⟨h', tk, acc', c', rfl, rfl, kp, hS', hacc⟩
    show wpAny (model prog w) A (load s.heap.objs.size >>= _) _ _ _
    refine wpAny_bind (wpAny_load hS' ?_)
    exact wpAny_pure (hQ h' tk acc' kp hacc)
  refine wpAny_mono (kdl_extend (R := fun r s' => ∃ h' tk acc' c', r = .ok (.ret (.ref s.heap.objs.size)) ∧ s' = { s with heap := h', toks := tk } ∧ (∀ b o, s.heap.get? b = some o → h'.get? b = some o) ∧ h'.get? s.heap.objs.size = some { cls := .type "list", dict := none, data := .seq acc' c', slots := #[] } ∧ ItemsOf P acc' n)
    (s := { s with heap := s.heap.push { cls := .type "list", data := .seq ([] : List Value).toArray } }) K hh (K.keep _ _ hok fun b _ o e => Heap.get?_push_of_some _ e) _ (Nat.ne_of_gt hlt.1) (Nat.ne_of_gt hlt.2) _ 0 hS (fun h' tk acc' c' hk hS' hacc => ?_) hn) (fun f s' h => ?_) (fun e s' h => ?_)
  · exact ⟨h', tk, acc', c', rfl, rfl, fun b o e => hk b o (Nat.ne_of_lt (Heap.lt_size e)) (Heap.get?_push_of_some _ e), hS', hacc⟩
  · cases f with
    | done f => exact fin _ _ h
    | again c => exact ⟨h.1, codeAny_mono h.2 fun r s' hr => fin r s' hr⟩
  · obtain ⟨_, _, _, _, e1, _⟩ := h; cases e1
section
variable {cc : CC} {X : Cx} {lv : Nat} {G : Hp} {bg : Option Addr} {ρ ρ1 ρ2 ρ3 : Env} {a b c : Expr} {x y z : D} {pos : Pos}
theorem items_of_size {α : Type} {f : DictEntry → Value} {es : Array DictEntry} {acc : Array Value} (h : ItemsOf (fun i v => ∃ hi : i < es.size, v = f es[i]) acc es.size) : acc.toList = es.toList.map f := by
  apply List.ext_getElem?
  intro j
  rw [List.getElem?_map, Array.getElem?_toList, Array.getElem?_toList]
  cases hj : acc[j]? with
  | none =>
    have : es.size ≤ j := by rw [← h.1]; exact Array.getElem?_eq_none_iff.mp hj
    rw [Array.getElem?_eq_none this]; rfl
  | some v =>
    obtain ⟨hi, e⟩ := h.2 j v hj
    rw [Array.getElem?_eq_getElem hi, e]; rfl
theorem c_sorted (hr : Room lv X.A) (hc : X.calm = true) : CallR X (.builtin "sorted") (rFn X (evFn .sorted)) := by
  rintro pins s σ H vs us Q I r ⟨v, d, z, rfl, dv, hz, q⟩
  obtain ⟨u, rfl, ru⟩ := vals1 r
  have seq : ∀ ds, items d = some ds → okSort ds = true → z = .list (sortD ds) → wpAny (model X.prog X.w) X.A (call (.builtin "sorted") [u]) (EP X pins σ Q) X.xe s := by
    rintro ds hi hk rfl
    have hp := hk
    simp only [okSort, Bool.and_eq_true] at hp
    obtain ⟨p, xs, its, as, rfl, h1, h2, h3, h4, hl⟩ := seq_reads I hi dv (keydL_plain ds hp.1.2)
    cases ru
    have hsz : its.toArray.size ≤ sizeLine := by rw [List.size_toArray, ← h2.length]; exact hl
    refine sorted_core hr I h1 h2 hk (by rw [← h1.length]; exact hl) (fun Q hq => ?_) q
    rcases h4 with ⟨n, h4⟩ | ⟨o, e1, e2, n, e3⟩
    · exact wpAny_collect_seq p (.inl rfl) h4 rfl rfl (fun h' kp => by simpa using hq h' s.toks kp) hsz
    · exact wpAny_collect_seq p (.inr rfl) e1 e2 e3 (fun h' kp => by simpa using hq h' s.toks kp) hsz
  cases d with
  | tuple ds =>
    have hz : (if okSort ds then some (PyData.list (sortD ds)) else none) = some z := hz
    split at hz
    · rename_i hk; cases hz; exact seq ds rfl hk rfl
    · cases hz
  | list ds =>
    have hz : (if okSort ds then some (PyData.list (sortD ds)) else none) = some z := hz
    split at hz
    · rename_i hk; cases hz; exact seq ds rfl hk rfl
    · cases hz
  | dict kvs =>
    simp only [evFn] at hz
    split at hz
    · rename_i hk
      cases hz
      obtain ⟨p, es, rfl, h1, h2, h3⟩ := dct_of dv
      cases ru
      obtain ⟨⟨ks, k1, k2⟩, _⟩ := dx_items hc I h1 h2
      obtain ⟨hd, o, ep, e1, e2, e3⟩ := dx_rd I h1
      have hn : es.size = kvs.length := by rw [← h2.length, Array.length_toList]
      have hsz : es.size ≤ sizeLine := by rw [hn]; exact few_of (m := 0) h3.few
      refine sorted_core hr I k1 k2 hk (by rw [List.length_map, ← hn]; exact hsz) (fun Q hq => ?_) q
      refine collect_src (prog := X.prog) (w := X.w) (A := X.A.in1) (KdlSrc.rawDict (es := es) (ep := ep) hd) (I.ok.hd hc) ⟨o, e1, e2, e3⟩ hsz fun h' tk acc kp hi => ?_
      rw [items_of_size (α := Unit) (f := (·.key)) hi]
      exact hq h' tk kp
    · cases hz
  | _ => cases hz
end
end WM
set_option Elab.async false
set_option linter.all false
set_option maxRecDepth 100000
set_option maxHeartbeats 4000000
/-! WmL: isinstance, subscripts, slices, list.index, min of a dict's values. -/
namespace WM
open PySem PySem.Spec PyProof.Rows L2 PySem.W PySem.SeqAt

/-! isinstance -/
def tyS : D → String
  | .none => "NoneType" | .bool _ => "bool" | .int _ => "int" | .str _ => "str" | .list _ => "list" | .tuple _ => "tuple" | .dict _ => "dict"
def tyN : Ty → String | .int => "int" | .bool => "bool" | .str => "str" | .tuple => "tuple" | .list => "list"
theorem kit_all (d : D) (t : Ty) : kitB (tyS d) (tyN t) = some (isTy t d) := by
  cases d <;> cases t <;> (simp only [tyS, tyN, isTy]; decide +kernel)
section
variable {X : Cx} {pins : List (Addr × Obj)} {σ : L2.St} {H : Hp} {s : Shared}
theorem kit_dn {v : V} {d : D} {u : Value} (I : Inv X pins σ H s) (r : RelV v u) (h : Dx X H v d) : ∃ P : Heap → Prop, PySem.W.KitX X.K u (.type (tyS d)) P ∧ P s.heap ∧ u ≠ .builtin "__main__.__loader__#opaque" := by
  cases h with
  | non => cases (show u = Value.none from r); exact ⟨_, PySem.W.kitx_none, True.intro, fun z => nomatch z⟩
  | bl y => cases (show u = Value.bool y from r); exact ⟨_, PySem.W.kitx_bool, True.intro, fun z => nomatch z⟩
  | int i => obtain ⟨t, q⟩ := (show ∃ t, u = Value.int i t from r); cases q; exact ⟨_, PySem.W.kitx_int, True.intro, fun z => nomatch z⟩
  | str y => obtain ⟨t, q⟩ := (show ∃ t, u = Value.str y t from r); cases q; exact ⟨_, PySem.W.kitx_str, True.intro, fun z => nomatch z⟩
  | tup h a =>
    cases r
    obtain ⟨its, _, ⟨o, h1, h2, _⟩, _⟩ := I.tuple h
    exact ⟨_, PySem.W.kitx_tuple, ⟨o, h1, h2⟩, fun z => nomatch z⟩
  | lst h a =>
    cases r
    obtain ⟨_, its, n, _, _, h1⟩ := lstR I (.inr ⟨_, h⟩)
    exact ⟨_, PySem.W.kitx_list, ⟨_, h1, rfl⟩, fun z => nomatch z⟩
  | dct h k a =>
    cases r
    obtain ⟨_, o, ep, h1, h2, _⟩ := dx_rd I (.inr ⟨_, h⟩)
    exact ⟨_, PySem.W.kitx_dict, ⟨o, h1, h2.1⟩, fun z => nomatch z⟩
end
section
variable {cc : CC} {X : Cx} {lv : Nat} {G : Hp} {bg : Option Addr} {ρ ρ1 ρ2 ρ3 : Env} {a b c : Expr} {x y z : D} {pos : Pos}
theorem call_isi1 (t : Ty) : CallR X (.builtin "isinstance") (fun vs H Q => ∃ v d, vs = [v, .ty (tyN t)] ∧ Dx X H v d ∧ Q (.bl (isTy t d)) H) := by
  rintro pins s σ H vs us Q I r ⟨v, d, rfl, dv, q⟩
  obtain ⟨u1, u2, rfl, r1, r2⟩ := vals2 r
  cases (show u2 = Value.type (tyN t) from r2)
  obtain ⟨P, Z, p, hx⟩ := kit_dn I r1 dv
  exact PySem.W.kia_one Z I.kIn p (kit_ty (kit_all d t)) hx fun tk => ⟨.bl _, H, I.tok tk, rfl, q⟩
theorem kitAny_all {K : PySem.W.Frag} (d : D) : ∀ ts : List Ty, PySem.W.kitAny K (.type (tyS d)) (ts.map fun t => .type (tyN t)) = some (ts.any fun t => isTy t d)
  | [] => kitAny_nil
  | t :: ts => by
    rw [List.map_cons, List.any_cons]
    refine kitAny_cons (kit_ty (kit_all d t)) (fun h => ?_) (fun h => by rw [h]; rfl)
    rw [h, Bool.false_or]
    exact kitAny_all d ts
theorem call_isiN (ts : List Ty) : CallR X (.builtin "isinstance") (fun vs H Q => ∃ v d tp, vs = [v, .ref tp] ∧ H tp = some (.tup (ts.map fun t => .ty (tyN t))) ∧ Dx X H v d ∧ Q (.bl (ts.any fun t => isTy t d)) H) := by
  rintro pins s σ H vs us Q I r ⟨v, d, tp, rfl, hT, dv, q⟩
  obtain ⟨u1, u2, rfl, r1, r2⟩ := vals2 r
  cases (show u2 = Value.ref tp from r2)
  obtain ⟨P, Z, p, hx⟩ := kit_dn I r1 dv
  obtain ⟨_, its, rv, o, h1, h2, n, h3⟩ := (show ObjOk X.prog X.w H s.heap tp (.tup (ts.map fun t => V.ty (tyN t))) from I.hok tp _ hT)
  have e3 : its = ts.map fun t => Value.type (tyN t) := by
    clear h1 h2 h3 hT Z hx p dv q r1 r r2 I
    revert its
    rename_i hle
    clear hle
    induction ts with
    | nil => intro its rv; cases rv; rfl
    | cons t ts ih =>
      intro its rv
      rw [List.map_cons] at rv
      cases rv with
      | cons r rr => rw [List.map_cons, ih _ rr]; cases (show _ = Value.type (tyN t) from r); rfl
  subst e3
  obtain ⟨oc, od, dt, sl⟩ := o
  simp only at h2 h3
  subst h2 h3
  exact PySem.W.kia_tup Z I.kIn p h1 (kitAny_all d ts) hx fun tk => ⟨.bl _, H, I.tok tk, rfl, q⟩
theorem boot_ty (t : Ty) : bootBuiltins (tyName t) = some (.type (tyN t)) := by cases t <;> decide +kernel
theorem ty_in (t : Ty) : tyName t ∈ bnames := by cases t <;> decide +kernel
theorem pe_tyname (o : OkX cc X lv) (t : Ty) {p : Pos} (hg : glB cc (tyName t) = true) : PE X (.Name (tyName t) p) (tC (.ty (tyN t))) :=
  pe_bltn (o.gl hg) (o.blt _ (ty_in t)) (boot_ty t) rfl (nm_parts (cc := cc) (gl_plain hg)).2.2 (nm_parts (cc := cc) (gl_plain hg)).1
theorem tys_args (o : OkX cc X lv) : ∀ (ts : List Ty) (es : List Expr), okTys cc ts es = true → PA X es (fun σ H Q => Q (ts.map fun t => .ty (tyN t)) H)
  | [], [], _ => pa_nil.mono fun σ H Q q => q
  | [], _ :: _, h => by simp [okTys] at h
  | _ :: _, [], h => by simp [okTys] at h
  | t :: ts, e :: es, h => by
    cases e with
    | Name x p =>
      simp only [okTys, Bool.and_eq_true, decide_eq_true_eq] at h
      obtain ⟨⟨rfl, hg⟩, hr⟩ := h
      exact (pa_cons (pe_tyname o t hg) (tys_args o ts es hr) rfl).mono fun σ H Q q => q
    | _ => simp [okTys] at h
theorem okTys_len {cc : CC} : ∀ (ts : List Ty) (es : List Expr), okTys cc ts es = true → ts.length = es.length
  | [], [], _ => rfl
  | [], _ :: _, h => by simp [okTys] at h
  | _ :: _, [], h => by simp [okTys] at h
  | t :: ts, e :: es, h => by
    cases e with
    | Name x p =>
      simp only [okTys, Bool.and_eq_true, decide_eq_true_eq] at h
      rw [List.length_cons, List.length_cons, okTys_len ts es h.2]
    | _ => simp [okTys] at h
theorem s_isi (o : OkX cc X lv) {p : Pos} (hg : glB cc "isinstance" = true) (hs : notStar a = true) (ha : PE X a (tS X G bg ρ x ρ1)) {ts : List Ty} (hb : (match b with | .Tuple es _ _ => okTys cc ts es | _ => okTy cc ts b) = true) (hl : ts.length ≤ 1000) :
    PE X (.Call (.Name "isinstance" p) [a, b] [] pos) (tS X G bg ρ (.bool (ts.any fun t => isTy t x)) ρ1) := by
  have one : ∀ t p2, ts = [t] → b = .Name (tyName t) p2 → glB cc (tyName t) = true → PE X (.Call (.Name "isinstance" p) [a, b] [] pos) (tS X G bg ρ (.bool (ts.any fun t => isTy t x)) ρ1) := by
    rintro t p2 rfl rfl hgt
    refine (pe_callB (call_isi1 t) (o.gl hg) (o.blt _ (by decide +kernel)) (by decide +kernel) (pa_cons ha (pa_cons (pe_tyname o t hgt) pa_nil rfl) (star_of' hs _ X.env)) (by decide) (by decide) (star_of' hs _ X.env) rfl).mono
      fun σ H Q ⟨R, q⟩ => ⟨R, fun v H1 R1 e1 d1 => ⟨v, x, rfl, d1, ?_⟩⟩
    have e : ([t].any fun t => isTy t x) = isTy t x := by simp
    rw [e] at q
    exact q _ _ R1 e1 (.bl _)
  cases b with
  | Tuple es k p2 =>
    have hb : okTys cc ts es = true := hb
    have hn : (notStar (.Tuple es k p2)) = true := rfl
    refine (pe_callB (call_isiN ts) (o.gl hg) (o.blt _ (by decide +kernel)) (by decide +kernel) (pa_cons ha (pa_cons (pe_tup (tys_args o ts es hb)) pa_nil rfl) (star_of' hs _ X.env)) (by decide) (by decide) (star_of' hs _ X.env) rfl).mono
      fun σ H Q ⟨R, q⟩ => ⟨R, fun v H1 R1 e1 d1 => ⟨by rw [List.length_map]; exact few_of (m := 0) (by omega), fun p hp => ⟨v, x, p, rfl, upd_same, d1.ext (Ext.new hp), q _ _ (R1.laid hp) (e1.trans (Ext.new hp)) (.bl _)⟩⟩⟩
  | Name y p2 =>
    have hb : okTy cc ts (.Name y p2) = true := hb
    cases ts with
    | nil => simp [okTy] at hb
    | cons t ts =>
      cases ts with
      | nil =>
        simp only [okTy, Bool.and_eq_true, decide_eq_true_eq] at hb
        obtain ⟨rfl, hb⟩ := hb
        exact one t p2 rfl rfl hb
      | cons _ _ => simp [okTy] at hb
  | _ => cases ts with
    | nil => simp [okTy] at hb
    | cons t ts => cases ts <;> simp [okTy] at hb
end
end WM
set_option Elab.async false
set_option linter.all false
set_option maxRecDepth 100000
set_option maxHeartbeats 4000000
/-! WmM: subscripts, slices, list.index, the values of a dict, what is asked of own objects. -/
namespace WM
open PySem PySem.Spec PyProof.Rows L2 PySem.W PySem.SeqAt

section
variable {cc : CC} {X : Cx} {lv : Nat} {G : Hp} {bg : Option Addr} {ρ ρ1 ρ2 ρ3 : Env} {a b c : Expr} {x y z : D} {pos : Pos}
theorem ixAt_atI {α : Type} {xs : List α} {i : Int} {v : α} (h : ixAt xs i = some v) : atI xs i = some v := by
  unfold ixAt at h
  unfold atI ixN
  split at h
  · rename_i h0
    have hl := (List.getElem?_eq_some_iff.mp h).1
    rw [if_pos h0, if_pos (by omega)]
    exact h
  · rename_i h0
    split at h
    · rename_i h1
      rw [if_neg h0, if_pos (by omega)]
      exact h
    · cases h
theorem atI_dn {w K H} {vs : List V} {ds : List D} {i : Int} {x : D} (r : DnA w K H vs ds) (h : ixAt ds i = some x) : ∃ v, atI vs i = some v ∧ Dn w K H v x := by
  unfold ixAt at h
  rw [← r.length] at h
  split at h
  · rename_i h0
    obtain ⟨v, e, d⟩ := r.get h
    exact ⟨v, ixAt_atI (by unfold ixAt; rw [if_pos h0]; exact e), d⟩
  · rename_i h0
    split at h
    · rename_i h1
      obtain ⟨v, e, d⟩ := r.get h
      exact ⟨v, ixAt_atI (by unfold ixAt; rw [if_neg h0, if_pos h1]; exact e), d⟩
    · cases h
theorem plain_ix {e : Expr} (h : notSlice e = true) : PlainIx e := by
  intro o i
  cases e <;> first | rfl | (simp [notSlice] at h)
theorem ix_lst {p : Addr} {vs : List V} {ds : List D} {i : Int} {z : D} {H : Hp} {Q : VK} (h1 : Rd H p (.lst vs)) (h2 : Dxs X H vs ds) (h : ixAt ds i = some z) (q : ∀ w, Dx X H w z → Q w H) : rIxL X.K (.ref p) (.int i) H Q := by
  obtain ⟨v, e, d⟩ := atI_dn h2 h
  exact ⟨p, vs, i, v, rfl, rfl, .inl h1, e, q v d⟩
/-- what is read of a list or dict, or of data, by a subscript -/
theorem ix_all (hr : Room lv X.A) : IxR X (fun v u H Q => ∃ d e z, Dx X H v d ∧ Dx X H u e ∧ evIdx d e = some z ∧ ∀ w, Dx X H w z → Q w H) := by
  intro value slice pins s σ H x y v u Q I rx ry ⟨d, e, z, dv, du, hz, q⟩ hs
  unfold evIdx at hz
  split at hz
  · rename_i ds i
    split at hz
    · obtain ⟨p, xs, rfl, h1, h2⟩ := tup_of dv
      rw [int_of du] at ry
      obtain ⟨w, e1, e2⟩ := atI_dn h2 hz
      exact ix_tup value slice pins s σ H _ _ v u Q I rx ry ⟨p, xs, i, w, rfl, rfl, h1, e1, q w e2⟩ hs
    · cases hz
  · rename_i ds i
    split at hz
    · obtain ⟨p, xs, rfl, h1, h2⟩ := lst_of dv
      rw [int_of du] at ry
      exact ix_list value slice pins s σ H _ _ v u Q I rx ry (ix_lst h1 h2 hz q) hs
    · cases hz
  · rename_i str i
    split at hz
    · rename_i hsm
      cases dv
      rw [int_of du] at ry
      obtain ⟨c, hc, rfl⟩ := Option.map_eq_some_iff.mp hz
      exact ix_str value slice pins s σ H _ _ v u Q I rx ry ⟨str, i, c, rfl, rfl, few_of (m := 0) hsm.2, ixAt_atI hc, q _ (.str _)⟩ hs
    · cases hz
  · rename_i kvs k
    split at hz
    · rename_i hf
      obtain ⟨p, es, rfl, h1, h2, h3⟩ := dct_of dv
      cases rx
      obtain ⟨hd, o, ep, e1, e2, e3⟩ := dx_rd I h1
      exact tail_any ⟨o, e1, e2.1⟩ slot_dict_getitem.lookup (dx_get lv hr I h1 h2 h3 hf du ry hz fun v r s' I' e2 e3 => ⟨v, H, I', e2, q v e3⟩) hs
    · cases hz
  · cases hz
theorem s_idx (hr : Room lv X.A) (hs : notSlice b = true) (ha : PE X a (tS X G bg ρ x ρ1)) (hb : PE X b (tS X G bg ρ1 y ρ2)) (hz : evIdx x y = some z) : PE X (.Subscript a b pos) (tS X G bg ρ z ρ2) :=
  (pe_ix (ix_all hr) ha hb (plain_ix hs)).mono fun σ H Q ⟨R, q⟩ => ⟨R, fun v H1 R1 e1 d1 => ⟨R1, fun u H2 R2 e2 d2 => ⟨x, y, z, d1.ext e2, d2, hz, fun w d => q w H2 R2 (e1.trans e2) d⟩⟩⟩
/-! what is asked of own objects -/
theorem ix_own (hr : Room lv X.A) : IxR X (fun v u H Q => ∃ a e z, v = .ref a ∧ Dx X H u e ∧ ((∃ vs ds, Rd H a (.lst vs) ∧ Dxs X H vs ds ∧ evIdx (.list ds) e = some z) ∨ (∃ es kvs, Rd H a (DX a es) ∧ DnE X.w X.K H es.toList kvs ∧ KOk kvs ∧ evIdx (.dict kvs) e = some z)) ∧ ∀ w, Dx X H w z → Q w H) := by
  rintro value slice pins s σ H x y v u Q I rx ry ⟨a, e, z, rfl, du, hz, q⟩ hs
  rcases hz with ⟨vs, ds, h1, h2, hz⟩ | ⟨es, kvs, h1, h2, h3, hz⟩
  · cases e <;> simp only [evIdx] at hz <;> first | cases hz | skip
    rename_i i
    split at hz
    · rw [int_of du] at ry
      exact ix_list value slice pins s σ H _ _ v u Q I rx ry (ix_lst h1 h2 hz q) hs
    · cases hz
  · simp only [evIdx] at hz
    split at hz
    · rename_i hf
      cases rx
      obtain ⟨hd, o, ep, e1, e2, e3⟩ := dx_rd I h1
      exact tail_any ⟨o, e1, e2.1⟩ slot_dict_getitem.lookup (dx_get lv hr I h1 h2 h3 hf du ry hz fun v r s' I' e2 e3 => ⟨v, H, I', e2, q v e3⟩) hs
    · cases hz
theorem pe_slot (o : OkX cc X lv) {i : Nat} {n : Str} {p : Pos} (hn : nmB cc i n = true) : PE X (.Name n p) (tVar i) := by
  unfold nmB at hn
  simp only [Bool.and_eq_true, decide_eq_true_eq] at hn
  obtain ⟨⟨n1, n2⟩, n3⟩ := hn
  obtain ⟨p1, p2', _⟩ := nm_parts (cc := cc) n2
  exact pe_var (by rw [o.n]; exact n1) (o.vis n3) p1 p2'
theorem s_oIdx (o : OkX cc X lv) {i : Nat} {n : Str} {p : Pos} (hn : nmB cc i n = true) (hs : notSlice b = true) (hi : isOwn ρ[i]? = true) (hb : PE X b (tS X G bg ρ y ρ1))
    (hz : (∃ xs, (ρ1[i]? = some (.ol xs) ∨ ρ1[i]? = some (.bo xs)) ∧ evIdx (.list xs) y = some z) ∨ ∃ kvs, ρ1[i]? = some (.od kvs) ∧ evIdx (.dict kvs) y = some z) : PE X (.Subscript (.Name n p) b pos) (tS X G bg ρ z ρ1) :=
  (pe_ix (ix_own o.room) (pe_slot o hn) hb (plain_ix hs)).mono fun σ H Q ⟨R, q⟩ => by
    obtain ⟨a1, o1, b1, _, _⟩ := R.own_at hi
    refine ⟨.ref a1, b1, R, fun u H2 R2 e2 d2 => ⟨a1, y, z, rfl, d2, ?_, fun w d => q w H2 R2 e2 d⟩⟩
    rcases hz with ⟨xs, h | h, hz⟩ | ⟨kvs, h, hz⟩
    · obtain ⟨b', us, c1, c2, c3⟩ := R2.at_ i _ h
      rw [b1] at c1; cases c1
      exact .inl ⟨us, xs, .inl c2, c3, hz⟩
    · obtain ⟨b', us, c1, c2, c3⟩ := R2.at_ i _ h
      rw [b1] at c1; cases c1
      exact .inl ⟨us, xs, .inl c2, c3, hz⟩
    · obtain ⟨b', us, c1, c2, c3, c4⟩ := R2.at_ i _ h
      rw [b1] at c1; cases c1
      exact .inr ⟨us, kvs, .inl c2, c3, c4, hz⟩
theorem s_oIn (o : OkX cc X lv) {i : Nat} {n : Str} {p : Pos} {neg k : Bool} (hn : nmB cc i n = true) (ha : PE X a (tS X G bg ρ x ρ1)) {kvs : List (D × D)} (hi : ρ1[i]? = some (.od kvs)) (hz : evIn x (.dict kvs) = some k) :
    PE X (.Compare a [if neg then .NotIn else .In] [.Name n p] pos) (tS X G bg ρ (.bool (if neg then !k else k)) ρ1) ∧ PT X (.Compare a [if neg then .NotIn else .In] [.Name n p] pos) (tST X G bg ρ (if neg then !k else k) ρ1) := by
  have hf : fitsK kvs x = true ∧ k = (dget kvs x).isSome := by
    simp only [evIn] at hz
    split at hz
    · rename_i h; cases hz; exact ⟨h, rfl⟩
    · cases hz
  obtain ⟨hf, rfl⟩ := hf
  have op : OpR X (compareOp (if neg then .NotIn else .In)) (fun v u H Q => ∃ a es, u = .ref a ∧ Rd H a (DX a es) ∧ DnE X.w X.K H es.toList kvs ∧ KOk kvs ∧ Dx X H v x ∧ Q (.bl (if neg then !(dget kvs x).isSome else (dget kvs x).isSome)) H) := by
    rintro pins s σ H v u x' y' Q I rx ry ⟨a, es, rfl, h1, h2, h3, h4, q⟩
    cases ry
    cases neg with
    | true => exact dx_notIn lv o.room I h1 h2 h3 hf h4 rx fun s' I' => ⟨.bl _, H, I', rfl, q⟩
    | false => exact dx_in lv o.room I h1 h2 h3 hf h4 rx fun s' I' => ⟨.bl _, H, I', rfl, q⟩
  have fin : ∀ {σ H} , Rel X G bg ρ1 σ H → ∃ b' us, σ[i]? = some (some (.ref b')) ∧ Rd H b' (DX b' us) ∧ DnE X.w X.K H us.toList kvs ∧ KOk kvs := fun R => by
    obtain ⟨b', us, c1, c2, c3, c4⟩ := R.at_ i _ hi
    exact ⟨b', us, c1, .inl c2, c3, c4⟩
  refine ⟨(pe_cmpR op ha (pe_slot o hn) (mark_of rfl)).mono fun σ H Q ⟨R, q⟩ => ⟨R, fun v H1 R1 e1 d1 => ?_⟩, (pt_cmpR op ha (pe_slot o hn) (mark_of rfl)).mono fun σ H Q ⟨R, q⟩ => ⟨R, fun v H1 R1 e1 d1 => ?_⟩⟩
  · obtain ⟨b', us, c1, c2, c3, c4⟩ := fin R1
    exact ⟨_, c1, b', us, rfl, c2, c3, c4, d1, q _ _ R1 e1 (.bl _)⟩
  · obtain ⟨b', us, c1, c2, c3, c4⟩ := fin R1
    exact ⟨_, c1, b', us, rfl, c2, c3, c4, d1, _, rfl, q _ R1 e1⟩
theorem c_lenO : CallR X (.builtin "len") (fun vs H Q => ∃ a xs, vs = [.ref a] ∧ Rd H a (.lst xs) ∧ Q (.int xs.length) H) := by
  rintro pins s σ H vs us Q I r ⟨a, xs, rfl, h, q⟩
  exact call_len pins s σ H _ us Q I r ⟨_, xs.length, rfl, .inl ⟨xs, .inl h, rfl⟩, q⟩
theorem s_oLen (o : OkX cc X lv) {i : Nat} {n : Str} {p p2 : Pos} (hg : glB cc "len" = true) (hn : nmB cc i n = true) {xs : List D} (hi : ρ[i]? = some (.ol xs)) : PE X (.Call (.Name "len" p) [.Name n p2] [] pos) (tS X G bg ρ (.int xs.length) ρ) :=
  (pe_callB c_lenO (o.gl hg) (o.blt _ (by decide +kernel)) (by decide +kernel) (pa_cons (pe_slot o hn) pa_nil rfl) (by decide) (by decide) rfl rfl).mono fun σ H Q ⟨R, q⟩ => by
    obtain ⟨b', us, c1, c2, c3⟩ := R.at_ i _ hi
    refine ⟨.ref b', c1, b', us, rfl, .inl c2, ?_⟩
    have := c3.length
    rw [this]
    exact q _ _ R (Ext.refl _) (.int _)
/-- an own list read as data: all its items plain -/
theorem own_reads {pins : List (Addr × Obj)} {σ : L2.St} {H : Hp} {s : Shared} (I : Inv X pins σ H s) {p : Addr} {vs : List V} {ds : List D} (h : H p = some (.lst vs)) (r : Dxs X H vs ds) (hp : PyData.plainAll ds = true) : ∃ as, Reads s.heap (.ref p) (.list ds) as := by
  obtain ⟨its, rv, ⟨o, n, e, c, dn, dd⟩, _⟩ := I.list (X := X) (.inl (.inl h))
  obtain ⟨as, q⟩ := reads_ofA I ds _ _ r hp rv
  exact ⟨_, .list e c dd (by simpa using q)⟩
theorem s_oCmp (o : OkX cc X lv) (op : COp) {i : Nat} {n : Str} {p : Pos} {k : Bool} (hn : nmB cc i n = true) (hs : notSet b = true) (hi : isOwn ρ[i]? = true) (hb : PE X b (tS X G bg ρ y ρ1)) {xs : List D} (hx : ρ1[i]? = some (.ol xs)) (ho : op = .eq ∨ op = .ne) (hz : evCmp op (.list xs) y = some k) :
    PE X (.Compare (.Name n p) [cmpOf op] [b] pos) (tS X G bg ρ (.bool k) ρ1) ∧ PT X (.Compare (.Name n p) [cmpOf op] [b] pos) (tST X G bg ρ k ρ1) := by
  have opR : OpR X (compareOp (cmpOf op)) (fun v u H Q => ∃ a vs, v = .ref a ∧ H a = some (.lst vs) ∧ Dxs X H vs xs ∧ Dx X H u y ∧ Q (.bl k) H) := by
    rintro pins s σ H v u x' y' Q I rx ry ⟨a, vs, rfl, h1, h2, dy, q⟩
    cases rx
    have fin : EP X pins σ Q (.bool k) s := ⟨.bl k, H, I, rfl, q⟩
    rcases ho with rfl | rfl
    all_goals
      simp only [evCmp] at hz
      split at hz
      · rename_i h
        cases hz
        simp only [shallow, Bool.and_eq_true, PyData.plain] at h
        obtain ⟨as, ra⟩ := own_reads I h1 h2 h.1.1
        obtain ⟨bs, rb⟩ := reads_of I y _ _ dy h.2.1 ry
        have hu : X.A.units + min (PyData.list xs).depth y.depth < cLine := room_u o.room (Nat.le_trans (Nat.min_le_left _ _) (by have := of_decide_eq_true h.1.2; omega))
        first
          | exact eq_plain ra rb (by simp only [PyData.plain]; exact h.1.1) h.2.1 hu fin
          | exact ne_plain ra rb (by simp only [PyData.plain]; exact h.1.1) h.2.1 hu fin
      · cases hz
  have fin : ∀ {σ H}, Rel X G bg ρ σ H → ∃ b', σ[i]? = some (some (.ref b')) ∧ ∀ {H2}, Rel X G bg ρ1 σ H2 → ∃ us, H2 b' = some (.lst us) ∧ Dxs X H2 us xs := fun R => by
    obtain ⟨a1, o1, b1, _, _⟩ := R.own_at hi
    refine ⟨a1, b1, fun R2 => ?_⟩
    obtain ⟨b', us, c1, c2, c3⟩ := R2.at_ i _ hx
    rw [b1] at c1; cases c1
    exact ⟨us, c2, c3⟩
  refine ⟨(pe_cmpR opR (pe_slot o hn) hb (mark_of hs)).mono fun σ H Q ⟨R, q⟩ => ?_, (pt_cmpR opR (pe_slot o hn) hb (mark_of hs)).mono fun σ H Q ⟨R, q⟩ => ?_⟩
  · obtain ⟨b', c1, g⟩ := fin R
    refine ⟨_, c1, R, fun u H2 R2 e2 d2 => ?_⟩
    obtain ⟨us, c2, c3⟩ := g R2
    exact ⟨b', us, rfl, c2, c3, d2, q _ _ R2 e2 (.bl _)⟩
  · obtain ⟨b', c1, g⟩ := fin R
    refine ⟨_, c1, R, fun u H2 R2 e2 d2 => ?_⟩
    obtain ⟨us, c2, c3⟩ := g R2
    exact ⟨b', us, rfl, c2, c3, d2, _, rfl, q _ R2 e2⟩

/-! slices -/
theorem cutIx_eq (n d : Nat) (o : Option Int) : HT.sIx n d o = cutIx n d o := by
  cases o with
  | none => rfl
  | some i =>
    simp only [HT.sIx, cutIx]
    by_cases h : 0 ≤ i
    · rw [if_neg (by omega), if_pos h]
    · rw [if_pos (by omega), if_neg h]
theorem cut_dn {w K H} {vs : List V} {ds : List D} (r : DnA w K H vs ds) (lo hi : Option Int) : DnA w K H (cutV vs lo hi) (cutL ds lo hi) := by
  unfold cutV cutL
  rw [cutIx_eq, cutIx_eq, r.length]
  exact (r.drop _).take _
theorem cut_whole {α : Type} {xs : List α} {lo hi : Option Int} (h : cutIx xs.length 0 lo = 0 ∧ cutIx xs.length xs.length hi = xs.length) : cutL xs lo hi = xs := by
  unfold cutL
  rw [h.1, h.2]
  simp
theorem s_cut {l h : Option Expr} {lo hi : Option Int} {p2 : Pos} {tl th : TO} (ha : PE X a (tS X G bg ρ x ρ1)) (hl : PO X l (fun σ H Q => Rel X G bg ρ1 σ H ∧ ∀ H', Rel X G bg ρ2 σ H' → Ext H H' → Q lo H')) (hh : PO X h (fun σ H Q => Rel X G bg ρ2 σ H ∧ ∀ H', Rel X G bg ρ3 σ H' → Ext H H' → Q hi H'))
    (hz : evCut x lo hi = some z) : PE X (.Subscript a (.Slice l h none p2) pos) (tS X G bg ρ z ρ3) := by
  cases x <;> simp only [evCut] at hz <;> first | cases hz | skip
  · rename_i xs
    have F : PE X (.Subscript a (.Slice l h none p2) pos) (tF X G bg ρ (cutL xs lo hi) ρ3) :=
      (pe_slice sl_list ha hl hh).mono fun σ H Q ⟨R, q⟩ => ⟨R, fun v H1 R1 e1 d1 => ⟨R1, fun H2 R2 e2 => ⟨R2, fun H3 R3 e3 => by
        obtain ⟨p, vs, rfl, h1, h2⟩ := lst_of ((d1.ext e2).ext e3)
        exact ⟨p, vs, rfl, .inl h1, fun p' hp => q _ _ _ (R3.laid hp) (e1.trans (e2.trans (e3.trans (Ext.new hp)))) upd_same ((cut_dn h2 lo hi).ext (Ext.new hp)) (R3.new hp) (not_own_new R3 hp)⟩⟩⟩⟩
    exact s_frz F
  · rename_i xs
    exact (pe_slice sl_tupA ha hl hh).mono fun σ H Q ⟨R, q⟩ => ⟨R, fun v H1 R1 e1 d1 => ⟨R1, fun H2 R2 e2 => ⟨R2, fun H3 R3 e3 => by
      obtain ⟨p, vs, rfl, h1, h2⟩ := tup_of ((d1.ext e2).ext e3)
      refine ⟨p, vs, rfl, h1, fun hw => ?_, fun _ p' hp => q _ _ (R3.laid hp) (e1.trans (e2.trans (e3.trans (Ext.new hp)))) (.tup (.inl (.inl upd_same)) ((cut_dn h2 lo hi).ext (Ext.new hp)))⟩
      rw [cutIx_eq, cutIx_eq, h2.length] at hw
      have e := cut_whole hw
      rw [e] at q
      exact q _ _ R3 (e1.trans (e2.trans e3)) (.tup h1 h2)⟩⟩⟩
theorem so_none : PO X none (fun σ H Q => Rel X G bg ρ σ H ∧ ∀ H', Rel X G bg ρ σ H' → Ext H H' → Q none H') :=
  ⟨fun pins s σ H Q I ⟨R, q⟩ => po_none.run pins s σ H Q I (q H R (Ext.refl H))⟩
theorem so_some {i : Int} (ha : PE X a (tS X G bg ρ (.int i) ρ1)) : PO X (some a) (fun σ H Q => Rel X G bg ρ σ H ∧ ∀ H', Rel X G bg ρ1 σ H' → Ext H H' → Q (some i) H') :=
  ⟨fun pins s σ H Q I ⟨R, q⟩ => (po_some ha).run pins s σ H Q I ⟨R, fun v H1 R1 e1 d1 => ⟨i, int_of d1, q H1 R1 e1⟩⟩⟩
/-! d[::-1] -/
theorem getItem_tuple_rev {prog : Program} {w : World} {A : Around} {E : Value → Shared → Prop} {s : Shared} {t sl : Addr} {items : Array Value} {u : Tok} {Q : Value → Shared → Prop} (ht : IsTup s.heap t items) (hs : s.heap.IsSliceOf sl .none .none (.int (-1) u))
    (h : Q (.ref s.heap.objs.size) { s with heap := s.heap.push { cls := .type "tuple", data := .seq items.toList.reverse.toArray } })
    (hsz : items.size ≤ sizeLine) : wpAny (model prog w) A (getItem (.ref t) (.ref sl)) Q E s := by
  have htake : sizeOk (.seq items.toList.reverse.toArray) := by
    show items.toList.reverse.toArray.size ≤ sizeLine
    rw [List.size_toArray, List.length_reverse, Array.length_toList]; exact hsz
  obtain ⟨os, hos, hcs, hds⟩ := id hs
  have hTs : s.TypeIs (.ref sl) "slice" := ⟨os, hos, hcs⟩
  unfold getItem
  try with_reducible refine wpAny_holding ?_
  first | refine wpAny_bind (wpAny_pure ?_) | skip
  refine wpAny_bind (wpAny_sequenceKey ht.typeIs (by decide) ?_)
  refine wpAny_bind (wpAny_callSpecial?_slot (name := Str.ofString "__getitem__") ht.typeIs PyProof.Rows.slot_tuple_getitem
    (wpAny_call_entry PyProof.Rows.slot_tuple_getitem ht.typeIs entry_tuple_getitem ?_ (args_tuple_getitem _ _)))
  show wpAny _ _ (Builtin.Tuple.tupleItemsOf (.ref t) >>= _) _ _ s
  refine wpAny_bind (tupleItemsOf_ ht ?_)
  refine wpAny_bind (wpAny_typeOf hTs ?_)
  rw [if_pos (by decide)]
  refine wpAny_bind ?_
  have hap : ∀ {Q' : Int × Int × Nat → Shared → Prop}, Q' ((items.size : Int) - 1, -1, items.size) s → wpAny (model prog w) A.in1 (Builtin.Slice.sliceApplied (.ref sl) (pure (items.size : Int))) Q' (fun e s' => E e s') s := by
    intro Q' hq
    unfold Builtin.Slice.sliceApplied Builtin.Slice.sliceFields
    refine wpAny_bind (wpAny_bind (wpAny_field hos hds (x := .none) rfl (wpAny_bind (wpAny_field hos hds (x := .none) rfl (wpAny_bind (wpAny_field hos hds (x := .int (-1) u) rfl (wpAny_pure ?_)))))))
    refine wpAny_bind (slicePart_int ?_)
    show wpAny _ _ (if ((-1 : Int) == 0) = true then _ else _) _ _ s
    rw [if_neg (by decide)]
    refine wpAny_bind (slicePart_none (wpAny_bind (slicePart_none (wpAny_bind (wpAny_pure ?_)))))
    show wpAny _ _ (match Builtin.Slice.sliceAdjust none none (-1) (items.size : Int) with | (lo, hi) => pure (lo, (-1 : Int), Builtin.Slice.slicePlaces lo hi (-1))) _ _ s
    have e1 : Builtin.Slice.sliceAdjust none none (-1) (items.size : Int) = ((items.size : Int) - 1, -1) := rfl
    rw [e1]
    show wpAny _ _ (pure ((items.size : Int) - 1, (-1 : Int), Builtin.Slice.slicePlaces ((items.size : Int) - 1) (-1) (-1))) _ _ s
    have e2 : Builtin.Slice.slicePlaces ((items.size : Int) - 1) (-1) (-1) = items.size := by
      unfold Builtin.Slice.slicePlaces
      have h1 : ¬ ((-1 : Int) > 0) := by decide
      simp only [h1, if_false]
      split
      · rw [show (- -1 : Int) = 1 by decide, Int.ediv_one]; omega
      · omega
    rw [e2]
    exact wpAny_pure hq
  refine hap ?_
  have hno : ¬ ((((items.size : Int) - 1) == 0 && (-1 : Int) == 1 && items.size == items.size) = true) := by
    intro q
    rw [Bool.and_eq_true, Bool.and_eq_true] at q
    exact absurd (eq_of_beq q.1.2) (by decide)
  show wpAny _ _ (if (((items.size : Int) - 1) == 0 && (-1 : Int) == 1 && items.size == items.size) = true then _ else _) _ _ s
  have hpick : ((List.range items.size).filterMap fun (m : Nat) => items[(((items.size : Int) - 1) + (m : Int) * (-1)).toNat]?).toArray = items.toList.reverse.toArray := by
    congr 1
    rw [← krv_all items, ← List.filterMap_reverse, ← krv_range, List.filterMap_map]
    have go : ∀ l : List Nat, (∀ m ∈ l, m < items.size) → l.filterMap (fun (m : Nat) => items[(((items.size : Int) - 1) + (m : Int) * (-1)).toNat]?) = l.filterMap ((fun m => items[m]?) ∘ fun k => items.size - 1 - k) := by
      intro l
      induction l with
      | nil => intro _; rfl
      | cons m l ih =>
        intro hm
        have h1 := hm m List.mem_cons_self
        rw [List.filterMap_cons, List.filterMap_cons, ih fun k hk => hm k (List.mem_cons_of_mem _ hk)]
        have e : (((items.size : Int) - 1) + (m : Int) * (-1)).toNat = items.size - 1 - m := by omega
        rw [e]
        rfl
    exact go _ fun m hm => List.mem_range.mp hm
  rw [if_neg hno, hpick]
  first
    | exact wpAny_bind (m := Builtin.Tuple.tupleExact _) (wpAny_newObj_type (wpAny_pure ⟨_, rfl, wpAny_pure h⟩) htake)
    | exact wpAny_bind (m := Builtin.Tuple.tupleExact _) (wpAny_newObj_type (wpAny_bind (wpAny_pure (wpAny_pure ⟨_, rfl, wpAny_pure h⟩))) htake)
    | exact wpAny_bind (wpAny_bind (m := Builtin.Tuple.tupleExact _) (wpAny_newObj_type (wpAny_pure (wpAny_pure ⟨_, rfl, wpAny_pure h⟩)) htake))
    | exact wpAny_bind (wpAny_bind (m := Builtin.Tuple.tupleExact _) (wpAny_newObj_type (wpAny_pure ⟨_, rfl, wpAny_pure h⟩) htake))
end
end WM
set_option Elab.async false
set_option linter.all false
set_option maxRecDepth 100000
set_option maxHeartbeats 4000000
/-! WmN: reversed slices, list.index, dict.get, the values of a dict, all functions of one datum. -/
namespace WM
open PySem PySem.Spec PyProof.Rows L2 PySem.W PySem.SeqAt

theorem base_of {e : Expr} (h : notCall0 e = true) (name : Str) (env : PySem.Env) (w : Sem Value) : attributeBase e name env w = w := by
  unfold attributeBase
  split
  · simp [notCall0] at h
  · rfl
section
variable {cc : CC} {X : Cx} {lv : Nat} {G : Hp} {bg : Option Addr} {ρ ρ1 ρ2 ρ3 : Env} {a b c : Expr} {x y z : D} {pos : Pos}
theorem args_max3 (a b c : Value) : argsOk "max" ⟨[a, b, c], []⟩ := by unfold argsOk; kernel_rfl
theorem vals3 {x y z : V} {us : List Value} (r : Vals [x, y, z] us) : ∃ u v t, us = [u, v, t] ∧ RelV x u ∧ RelV y v ∧ RelV z t := by
  cases r with
  | cons a r => cases r with
    | cons b r => cases r with
      | cons c r => cases r; exact ⟨_, _, _, rfl, a, b, c⟩
theorem c_max3 (hr : Room lv X.A) (hc : X.calm = true) : CallR X (.builtin "max") (fun vs H Q => ∃ v u t d e g z, vs = [v, u, t] ∧ Dx X H v d ∧ Dx X H u e ∧ Dx X H t g ∧ maxL [d, e, g] = some z ∧ ∀ w, Dx X H w z → Q w H) := by
  rintro pins s σ H vs us Q I r ⟨v, u, t, d, e, g, z, rfl, dv, du, dt, hz, q⟩
  obtain ⟨u1, u2, u3, rfl, r1, r2, r3⟩ := vals3 r
  simp only [maxL] at hz
  split at hz
  · rename_i h
    cases hz
    simp only [Bool.and_eq_true, decide_eq_true_eq] at h
    have h1 : Dxs X H [v, u, t] [d, e, g] := .cons dv (.cons du (.cons dt .nil))
    have h2 : Vals [v, u, t] [u1, u2, u3] := .cons r1 (.cons r2 (.cons r3 .nil))
    obtain ⟨as, h3⟩ := reads_ofA I _ _ _ h1 h.1.1.2 h2
    have hT : (s.heap.push { cls := .type "tuple", data := .seq #[u1, u2, u3] }).IsTuple s.heap.objs.size #[u1, u2, u3] := ⟨_, Heap.get?_push_size _ rfl, rfl, 0, rfl⟩
    have kp : ∀ b o, s.heap.get? b = some o → (s.heap.push { cls := .type "tuple", data := .seq #[u1, u2, u3] }).get? b = some o := fun b o e => Heap.get?_push_of_some _ e
    have hname : (toString "max" ++ toString ".loop" : String) = "max.loop" := by decide
    refine call_function_tree PySem.F.kind_max PySem.F.plain_max PySem.F.entry_max (args_max3 _ _ _) ?_
    show wpAny _ X.A.in1 (Builtin.Builtins.bindParams "max" ["key", "default"] 0 ⟨[], []⟩ >>= _) _ _ s
    refine wpAny_bind (wpAny_of_eq (show Builtin.Builtins.bindParams "max" ["key", "default"] 0 ⟨[], []⟩ = pure [none, none] from rfl) ?_)
    show wpAny _ X.A.in1 (newTuple [u1, u2, u3] >>= _) _ _ s
    refine wpAny_bind (wpAny_newObj_type ?_)
    refine wpAny_bind (iter_tupleW (A := X.A.in1) (s := { s with heap := s.heap.push { cls := .type "tuple", data := .seq #[u1, u2, u3] } }) (I.ok.hd hc) hT fun s₂ e2 W st hfp hw hk => ?_)
    refine wpAny_bind (wpAny_newObj_type ?_)
    rw [hname]
    have hr1 : ReadsAll ({ s with heap := s.heap.push { cls := .type "tuple", data := .seq #[u1, u2, u3] } } : Shared).heap (#[u1, u2, u3] : Array Value).toList [d, e, g] as := ReadsAll.keeps kp h3
    have hu : X.A.in1.units + PyData.depthAll [d, e, g] < cLine := by have := hr.un; have := h.1.2; show X.A.units + 1 + _ < _; omega
    have cmp := cmpIn_gt (prog := X.prog) (w := X.w) (A := X.A.in1) hr1 (alikeAll_of h.1.1.1 h.2) hu
    have hSf : s₂.heap.objs.size ∉ [(s.heap.push { cls := .type "tuple", data := .seq #[u1, u2, u3] }).objs.size, s.heap.objs.size] := fun hm => Nat.lt_irrefl _ (hfp _ hm)
    refine wpAny_pure ⟨plainId_quiet PySem.F.plain_max_loop _, codeAny_max_loop_firstH W _ hw _ cmp s₂.heap.objs.size hSf (fresh_in hk) _ (show 0 < 3 by decide) (fun b o e => Heap.get?_push_of_some _ (hk b o e)) (W.frame 0 s₂ _ s₂.toks st (Nat.le_refl _) fun b _ o e => Heap.get?_push_of_some _ e) (Heap.get?_push_size _ rfl) fun v' s' hP hm => ?_⟩
    have m := Moved.drop_new (tk := s₂.toks) hm (Nat.le_refl _)
    obtain ⟨h', tk, rfl, hk'⟩ := moved_old e2 rfl m
    obtain ⟨bs, r, _, _, _⟩ := readsAll_atA hr1 _ v' hP
    have e3 := (argBest_fold (fun x y => dataLt y x) PyData.none d [e, g] [e, g].length (Nat.le_refl _)).2
    rw [List.take_length] at e3
    have r' : Reads h' v' (maxD d [e, g]) bs := reads_keeps hk' (by unfold maxD; rw [← e3]; exact r)
    obtain ⟨w, w1, w2⟩ := pick_item I h1 h2 h.1.1.2 hP (fun b o eb => hk' b o (kp b o eb)) r'
    exact ⟨w, H, I.kept fun b o eb => hk' b o (kp b o eb), w1, q _ w2⟩
  · cases hz
theorem s_max3 (o : OkX cc X lv) {p : Pos} {u : D} (hg : glB cc "max" = true) (h1 : notStar a = true) (h2 : notStar b = true) (h3 : notStar c = true) (ha : PE X a (tS X G bg ρ x ρ1)) (hb : PE X b (tS X G bg ρ1 y ρ2)) (hc : PE X c (tS X G bg ρ2 z ρ3)) (hz : maxL [x, y, z] = some u) :
    PE X (.Call (.Name "max" p) [a, b, c] [] pos) (tS X G bg ρ u ρ3) :=
  (pe_callB (c_max3 o.room o.calm) (o.gl hg) (o.blt _ (by decide +kernel)) (by decide +kernel) (pa_cons ha (pa_cons hb (pa_cons hc pa_nil (star_of' h3 [] X.env)) (star_of' h2 [c] X.env)) (star_of' h1 [b, c] X.env)) (by decide) (by decide) (star_of' h1 [b, c] X.env) (by rw [star_of' h2 [c] X.env, star_of' h3 [] X.env]; rfl)).mono fun σ H Q ⟨R, q⟩ => ⟨R, fun v H1 R1 e1 d1 => ⟨R1, fun w H2 R2 e2 d2 => ⟨R2, fun t H3 R3 e3 d3 => ⟨v, w, t, x, y, z, u, rfl, (d1.ext e2).ext e3, d2.ext e3, d3, hz, fun r d => q r H3 R3 (e1.trans (e2.trans e3)) d⟩⟩⟩⟩
/-- a[::st], st a written -1 -/
theorem s_rev {st : Expr} {p2 : Pos} (ha : PE X a (tS X G bg ρ x ρ1)) (hst : PE X st (tS X G bg ρ1 (.int (-1)) ρ1)) (hz : evStep x (-1) = some z) : PE X (.Subscript a (.Slice none none (some st) p2) pos) (tS X G bg ρ z ρ1) := by
  have go : ∀ (tg : TE), (∀ (pins : List (Addr × Obj)) (s : Shared) (σ : L2.St) (H : Hp) (Q : VK) (v : V) (u : Value) (sl : Addr) (tk : Tok), tg σ H Q → True) → True := fun _ _ => True.intro
  have core : ∀ (T id : String) (te : TE), typeLookup (.type T) "__getitem__" = pure (some (.builtin id)) →
      (∀ (pins : List (Addr × Obj)) (s : Shared) (σ : L2.St) (H : Hp) (Q : VK) (v : V) (u : Value) (sl : Addr) (tk : Tok), Inv X pins σ H s → RelV v u → Dx X H v x → Rel X G bg ρ1 σ H → s.heap.IsSliceOf sl .none .none (.int (-1) tk) → (∀ H0, Ext H0 H → True) →
        (∃ H0, Ext H0 H ∧ te σ H0 Q) → s.TypeIs u T ∧ wpAny (model X.prog X.w) X.A (getItem u (.ref sl)) (EP X pins σ Q) X.xe s) →
      PE X (.Subscript a (.Slice none none (some st) p2) pos) (fun σ H Q => Rel X G bg ρ σ H ∧ te σ H Q) := by
    intro T id te hT hc
    refine ⟨fun pins s σ H Q I ⟨R, q⟩ => ?_⟩
    refine Subscript_ (thn (ha.run pins s σ H (fun v H' => Rel X G bg ρ1 σ H' ∧ Ext H H' ∧ Dx X H' v x) I ⟨R, fun v H' R' e d => ⟨R', e, d⟩⟩) fun v s1 ⟨xv, H1, I1, r1, R1, e1, d1⟩ => ?_)
    refine wpAny_Slice ?_
    rw [evalPart_none]
    refine wpAny_pure ?_
    refine wpAny_pure ?_
    rw [evalPart_some]
    refine thn (hst.run pins s1 σ H1 (fun v H' => Rel X G bg ρ1 σ H' ∧ Ext H1 H' ∧ v = .int (-1)) I1 ⟨R1, fun v H' R' e d => ⟨R', e, int_of d⟩⟩) fun vk s3 ⟨xk, H3, I3, r3, R3, e3, d3⟩ => ?_
    subst d3
    obtain ⟨tk, rfl⟩ := r3
    have I4 : Inv X pins σ H3 { s3 with heap := s3.heap.push { cls := .type "slice", data := .fields #[.none, .none, .int (-1) tk] } } := I3.kept (t' := s3.toks) fun b ob q => Heap.get?_push_of_some _ q
    obtain ⟨ht, hg⟩ := hc pins { s3 with heap := s3.heap.push { cls := .type "slice", data := .fields #[.none, .none, .int (-1) tk] } } σ H3 Q xv v s3.heap.objs.size tk I4 r1 (d1.ext e3) R3 (Heap.IsSliceOf.new ..) (fun _ _ => True.intro) ⟨H, e1.trans e3, q⟩
    show wpAny (model X.prog X.w) X.A (subscriptTail a (.Slice none none (some st) p2) v (.ref s3.heap.objs.size)) (EP X pins σ Q) X.xe { s3 with heap := s3.heap.push { cls := .type "slice", data := .fields #[.none, .none, .int (-1) tk] } }
    exact tail_any (ops := [v, .ref s3.heap.objs.size]) ht hT hg rfl
  cases x <;> simp only [evStep] at hz <;> first | cases hz | skip
  · rename_i xs
    refine s_frz ((core "list" _ (fun σ H Q => ∀ a vs H', Rel X G bg ρ1 σ H' → Ext H H' → H' a = some (.lst vs) → Dxs X H' vs xs.reverse → G a = none → (∀ i : Nat, isOwn ρ1[i]? = true → σ[i]? ≠ some (some (.ref a))) → Q (.ref a) H') slot_list_getitem.lookup ?_).mono fun σ H Q q => q)
    rintro pins s σ H Q v u sl tk I r d R hs _ ⟨H0, e0, q⟩
    obtain ⟨p, vs, rfl, h1, h2⟩ := lst_of d
    cases r
    obtain ⟨hz, its, n, rv, hl, ht⟩ := lstR I h1
    refine ⟨(isL_of ht).typeIs, wpAny_getItem_list_slice (isL_of ht) hs .none .none (.int (-1) tk) (by decide) ?_ (by rw [List.size_toArray, ← hl]; exact hz)⟩
    rw [krv_pick]
    have hp : H s.heap.objs.size = none := I.hok.fresh (Nat.le_refl _)
    have rr : Vals vs.reverse its.toArray.toList.reverse := by simpa using rv.reverse
    refine ⟨.ref s.heap.objs.size, _, I.laid (t' := s.toks) (o := .lst vs.reverse) (fun b ob q => Heap.get?_push_of_some _ q) (Nat.le_refl _) ⟨by rw [List.length_reverse]; exact hz, _, 0, rr, Heap.get?_push_size _ rfl⟩, rfl, q _ _ _ (R.laid hp) (e0.trans (Ext.new hp)) upd_same (h2.reverse.ext (Ext.new hp)) (R.new hp) (not_own_new R hp)⟩
  · rename_i xs
    refine (core "tuple" _ (fun σ H Q => ∀ v H', Rel X G bg ρ1 σ H' → Ext H H' → Dx X H' v (.tuple xs.reverse) → Q v H') slot_tuple_getitem.lookup ?_).mono fun σ H Q q => q
    rintro pins s σ H Q v u sl tk I r d R hs _ ⟨H0, e0, q⟩
    obtain ⟨p, vs, rfl, h1, h2⟩ := tup_of d
    cases r
    obtain ⟨its, rv, ht, hz⟩ := I.tuple h1
    have hl := rv.length
    refine ⟨ht.typeIs, getItem_tuple_rev ht hs ?_ (by rw [List.size_toArray, ← hl]; exact hz)⟩
    have hp : H s.heap.objs.size = none := I.hok.fresh (Nat.le_refl _)
    have rr : Vals vs.reverse its.toArray.toList.reverse := by simpa using rv.reverse
    refine ⟨.ref s.heap.objs.size, _, I.laid (t' := s.toks) (o := .tup vs.reverse) (fun b ob q => Heap.get?_push_of_some _ q) (Nat.le_refl _) ⟨by rw [List.length_reverse]; exact hz, _, rr, IsTup.new _ _⟩, rfl, q _ _ (R.laid hp) (e0.trans (Ext.new hp)) (.tup (.inl (.inl upd_same)) (h2.reverse.ext (Ext.new hp)))⟩

/-! methods -/
theorem lst_tyV {K : PySem.W.Frag} {H : Hp} {a : Addr} {vs : List V} (h : Rd H a (.lst vs)) : tyV K "list" (.ref a) H := .inl ⟨rfl, vs, .inl h⟩
theorem nkL_idx {xs : List D} {y : D} (h : keydL xs = true) (hy : keyd y = true) : (nkL xs).idxOf (nk y) = xs.idxOf y ∧ (y ∈ xs → nk y ∈ nkL xs) := by
  induction xs with
  | nil => exact ⟨rfl, fun h => nomatch h⟩
  | cons x xs ih =>
    rw [keydL, Bool.and_eq_true] at h
    obtain ⟨i1, i2⟩ := ih h.2
    refine ⟨?_, fun hm => ?_⟩
    · rw [nkL, List.idxOf_cons, List.idxOf_cons, i1]
      by_cases e : x = y
      · subst e; simp
      · have e' : nk x ≠ nk y := fun z => e (nk_inj _ _ h.1 hy z)
        have b1 : (nk x == nk y) = false := beq_eq_false_iff_ne.mpr e'
        have b2 : (x == y) = false := beq_eq_false_iff_ne.mpr e
        rw [b1, b2]
    · rcases List.mem_cons.mp hm with rfl | hm
      · exact List.mem_cons_self
      · exact List.mem_cons_of_mem _ (i2 hm)
theorem nkL_length : ∀ xs : List D, (nkL xs).length = xs.length
  | [] => rfl
  | x :: xs => by rw [nkL, List.length_cons, List.length_cons, nkL_length xs]
theorem mt_index (hr : Room lv X.A) : MtR X "list.index" (fun v vs H Q => ∃ u xs y, vs = [u] ∧ Dx X H v (.list xs) ∧ Dx X H u y ∧ keydL xs = true ∧ keyd y = true ∧ y.depth ≤ 8 ∧ y ∈ xs ∧ Q (.int (xs.idxOf y : Nat)) H) := by
  rintro pins s σ H v vs u us Q I rx rs ⟨w, xs, y, rfl, dv, dw, h1, h2, h3, h4, q⟩
  obtain ⟨t, rfl, rt⟩ := vals1 rs
  obtain ⟨p, ws, rfl, k1, k2⟩ := lst_of dv
  cases rx
  obtain ⟨hz, its, n, rv, hl, ht⟩ := lstR I k1
  obtain ⟨e1, e2⟩ := nkL_idx h1 h2
  have hu : X.A.in1.units + (nk y).depth < cLine := by rw [nk_depth y h2]; have := hr.un; show X.A.units + 1 + _ < _; omega
  refine call_list_index (isL_of ht) (ItemsEq.nested (A := X.A.in1) (nested_ofA I xs _ _ k2 h1 rv) (nested_of I y _ _ dw h2 rt) hu) (by rw [nkL_length, ← k2.length]; exact hz) (e2 h4) ?_
  rw [e1]
  exact ⟨.int _, H, I.tok _, ⟨_, rfl⟩, q⟩
theorem hfew_of {es : List Expr} {p : Pos} {env : PySem.Env} (h : ∀ e ∈ es, notStar e = true) (hl : es.length < 30) : ((backTo p (starEach es env)).all (fun x => !x.1) && (backToKw p (keywordEach [] env)).all (fun x => x.1.isSome)
      && decide (es.length + ([] : List Keyword).length + (if ([] : List Keyword).isEmpty then 0 else 1) < 30)) = true := by
  have e1 : ∀ es : List Expr, (∀ e ∈ es, notStar e = true) → (backTo p (starEach es env)).all (fun x => !x.1) = true := by
    intro es
    induction es with
    | nil => intro _; rfl
    | cons e es ih =>
      intro h
      rw [star_of' (h e List.mem_cons_self) es env]
      have := ih fun x hx => h x (List.mem_cons_of_mem _ hx)
      unfold backTo at this ⊢
      simp only [List.map_cons, List.all_cons, List.all_map] at this ⊢
      simpa using this
  rw [e1 es h]
  simp [keywordEach, backToKw]
  exact hl
theorem s_index (hr : Room lv X.A) {ap cp : Pos} (hc : notCall0 a = true) (hl : (ap.endLine == cp.line) = true) (hs : notStar b = true) (ha : PE X a (tS X G bg ρ x ρ1)) (hb : PE X b (tS X G bg ρ1 y ρ2)) {xs : List D} (hx : x = .list xs)
    (h : (keydL xs && keyd y && decide (y.depth ≤ 8) && decide (y ∈ xs)) = true) : PE X (.Call (.Attribute a "index" ap) [b] [] cp) (tS X G bg ρ (.int (xs.idxOf y)) ρ2) := by
  subst hx
  simp only [Bool.and_eq_true, decide_eq_true_eq] at h
  refine (pe_bm PySem.F.plainAttrs_list PySem.F.slot_list_index PySem.F.type_list_index (mt_index hr) ha (pa_cons hb pa_nil (star_of' hs [] X.env)) (base_of hc _ _ _) (hfew_of (fun e he => by simp only [List.mem_singleton] at he; rw [he]; exact hs) (show 1 < 30 by decide)) hl (star_of' hs [] X.env) rfl).mono fun σ H Q ⟨R, q⟩ => ⟨R, fun v H1 R1 e1 d1 => ?_⟩
  obtain ⟨p, vs, rfl, k1, k2⟩ := lst_of d1
  exact ⟨lst_tyV k1, R1, fun u H2 R2 e2 d2 => ⟨u, xs, y, rfl, d1.ext e2, d2, h.1.1.1, h.1.1.2, h.1.2, h.2, q _ _ R2 (e1.trans e2) (.int _)⟩⟩
/-! methods of dicts: by their entries -/
theorem dx_typeIs {pins : List (Addr × Obj)} {σ : L2.St} {H : Hp} {s : Shared} (I : Inv X pins σ H s) {a : Addr} {es : Array DictEntry} (h : Rd H a (DX a es)) : s.TypeIs (.ref a) "dict" ∧ ∀ b, Value.ref a = .ref b → ∃ ob, s.heap.get? b = some ob ∧ ob.dict = none := by
  obtain ⟨hd, o, ep, e1, e2, e3⟩ := dx_rd I h
  exact ⟨⟨o, e1, e2.1⟩, fun b e => by cases e; exact ⟨o, e1, e2.2.1⟩⟩
theorem s_oGet (o : OkX cc X lv) {i : Nat} {n : Str} {p ap cp : Pos} (hn : nmB cc i n = true) (hl : (ap.endLine == cp.line) = true) (h1 : notStar a = true) (h2 : notStar b = true) (hi : isOd ρ[i]? = true) (ha : PE X a (tS X G bg ρ x ρ1)) (hb : PE X b (tS X G bg ρ1 y ρ2)) {kvs : List (D × D)} (hx : ρ2[i]? = some (.od kvs)) (hz : evGet kvs x y = some z) : PE X (.Call (.Attribute (.Name n p) "get" ap) [a, b] [] cp) (tS X G bg ρ z ρ2) := by
  have hf : fitsK kvs x = true ∧ z = (dget kvs x).getD y := by
    unfold evGet at hz
    split at hz
    · rename_i h; cases hz; exact ⟨h, rfl⟩
    · cases hz
  obtain ⟨hf, rfl⟩ := hf
  have hA : PA X [a, b] (tSA X G bg ρ [x, y] ρ2) := sa_cons h1 ha (sa_cons h2 hb sa_nil)
  have hst : starEach [a, b] X.env = (false, eval a X.env) :: starEach [b] X.env := star_of' h1 [b] X.env
  have hd0 : ∀ {σ H}, Rel X G bg ρ σ H → ∃ c es, σ[i]? = some (some (.ref c)) ∧ Rd H c (DX c es) := fun {σ H} R => by
    cases e : ρ[i]? with
    | none => rw [e] at hi; cases hi
    | some s =>
      rw [e] at hi
      cases s with
      | od kvs => obtain ⟨c, es, h1, h2, _⟩ := R.at_ i _ e; exact ⟨c, es, h1, .inl h2⟩
      | _ => cases hi
  refine ⟨fun pins s σ H Q I ⟨R, q⟩ => ?_⟩
  obtain ⟨c, es0, c1, c2⟩ := hd0 R
  refine wpAny_Call_method_late (base_of rfl _ _ _) (hfew_of (fun e he => by simp only [List.mem_cons, List.not_mem_nil, or_false] at he; rcases he with rfl | rfl; exact h1; exact h2) (show 2 < 30 by decide)) hl rfl (thn ((pe_slot o hn).run pins s σ H (fun v H' => v = .ref c ∧ H' = H) I ⟨_, c1, rfl, rfl⟩) fun v s1 ⟨xv, H1, I1, r1, e1, e2⟩ => ?_)
  subst e1 e2
  cases r1
  obtain ⟨t1, t2⟩ := dx_typeIs I1 c2
  refine ⟨"dict", "dict.get", PySem.F.plainAttrs_dict, PySem.F.slot_dict_get, PySem.F.type_dict_get, t1, t2, ?_⟩
  have hrun := hA.run cp pins s1 σ H1 (fun vs H' => Rel X G bg ρ2 σ H' ∧ Ext H1 H' ∧ Dxs X H' vs [x, y]) I1 ⟨R, fun vs H' R' e d => ⟨R', e, d⟩⟩
  rw [hst] at hrun ⊢
  have hpl : (backTo cp (starEach [b] X.env)).any (·.1) = false := by rw [star_of' h2 [] X.env]; rfl
  refine Calls.callWith_builtin (by show (false || (backTo cp (starEach [b] X.env)).any (·.1)) = false; rw [hpl] <;> rfl) (Calls.evalArgs_plain ?_)
  refine thn hrun fun us s2 ⟨vs, H2, I2, r2, R2, e2, d2⟩ => ?_
  cases d2 with
  | cons dx d2 =>
    cases d2 with
    | cons dy d2 =>
      cases d2
      obtain ⟨u1, u2, rfl, q1, q2⟩ := vals2 r2
      obtain ⟨c', es, k1, k2, k3, k4⟩ := R2.at_ i _ hx
      rw [c1] at k1; cases k1
      exact dx_getOr lv o.room I2 (.inl k2) k3 k4 hf dx q1 q2 dy fun v r s' I' e3 e4 => ⟨v, H2, I', e3, q v H2 R2 e2 e4⟩
/-- d.values() -/
def tView (X : Cx) (G : Hp) (bg : Option Addr) (ρ : Env) (kvs : List (D × D)) (ρ' : Env) : TE := fun σ H Q => Rel X G bg ρ σ H ∧ ∀ p a es H', Rel X G bg ρ' σ H' → Ext H H' → Rd H' a (DX a es) → DnE X.w X.K H' es.toList kvs → KOk kvs → H' p = some (.ext fun h => h.IsValuesView p a) → Q (.ref p) H'
theorem s_values {ap cp : Pos} (hc : notCall0 a = true) (hl : (ap.endLine == cp.line) = true) {kvs : List (D × D)} (ha : PE X a (tS X G bg ρ (.dict kvs) ρ1)) : PE X (.Call (.Attribute a "values" ap) [] [] cp) (tView X G bg ρ kvs ρ1) := by
  refine ⟨fun pins s σ H Q I ⟨R, q⟩ => ?_⟩
  refine wpAny_Call_method0_late (base_of hc _ _ _) hl (thn (ha.run pins s σ H (fun v H' => Rel X G bg ρ1 σ H' ∧ Ext H H' ∧ Dx X H' v (.dict kvs)) I ⟨R, fun v H' R' e d => ⟨R', e, d⟩⟩) fun v s1 ⟨xv, H1, I1, r1, R1, e1, d1⟩ => ?_)
  obtain ⟨c, es, rfl, c2, c3, c4⟩ := dct_of d1
  cases r1
  obtain ⟨t1, t2⟩ := dx_typeIs I1 c2
  obtain ⟨hd, o, ep, k1, k2, k3⟩ := dx_rd I1 c2
  refine ⟨"dict", "dict.values", PySem.F.plainAttrs_dict, PySem.F.slot_dict_values, PySem.F.type_dict_values, t1, t2, Calls.callWith_builtin rfl (PySem.evalArgs_none ?_)⟩
  refine call_meetsIn PySem.F.slot_dict_values t1 PySem.F.entry_dict_values (PySem.F.args_dict_values_1 _) (meets_dict_values_raw c hd) ⟨⟨es, ep, o, k1, k2, k3⟩, ?_⟩
  have hp : H1 s1.heap.objs.size = none := I1.hok.fresh (Nat.le_refl _)
  have hv : ∀ (hh : Heap), (hh.push { cls := .type "dict_values", data := .fields #[.ref c] }).get? hh.objs.size = some { cls := .type "dict_values", data := .fields #[.ref c] } := fun hh => Heap.get?_push_size _ rfl
  have J := I1.laid (t' := s1.toks) (h' := s1.heap.push { cls := .type "dict_values", data := .fields #[.ref c] }) (a := s1.heap.objs.size) (o := .ext fun h => h.IsValuesView s1.heap.objs.size c) (fun b ob q => Heap.get?_push_of_some _ q) (Nat.le_refl _)
    ⟨⟨_, hv s1.heap, rfl, rfl⟩, ⟨_, hv s1.heap⟩, fun h1 h2 ⟨o, x1, x2, x3⟩ hk => ⟨o, hk o x1, x2, x3⟩⟩
  have E := Ext.new (o := .ext fun h => h.IsValuesView s1.heap.objs.size c) hp
  refine ⟨.ref s1.heap.objs.size, _, J, rfl, q _ c es _ (R1.laid hp) (e1.trans E) ?_ (c3.ext E) c4 upd_same⟩
  rcases c2 with c2 | ⟨o', c2⟩
  · exact .inl (by rw [upd_ne (ne_of_none c2 hp)]; exact c2)
  · exact .inr ⟨o', by rw [upd_ne (ne_of_none c2 hp)]; exact c2⟩
theorem c_minV (hr : Room lv X.A) (hc : X.calm = true) : CallR X (.builtin "min") (fun vs H Q => ∃ p c es kvs z, vs = [.ref p] ∧ Rd H c (DX c es) ∧ DnE X.w X.K H es.toList kvs ∧ H p = some (.ext fun h => h.IsValuesView p c) ∧ minL (kvs.map (·.2)) = some z ∧ ∀ w, Dx X H w z → Q w H) := by
  rintro pins s σ H vs us Q I r ⟨p, c, es, kvs, z, rfl, h1, h2, h3, hz, q⟩
  obtain ⟨u, rfl, ru⟩ := vals1 r
  cases ru
  obtain ⟨_, ⟨ws, w1, w2⟩⟩ := dx_items hc I h1 h2
  obtain ⟨hd, o, ep, e1, e2, e3⟩ := dx_rd I h1
  obtain ⟨hvw, _, _⟩ := (show ObjOk X.prog X.w H s.heap p (.ext fun h => h.IsValuesView p c) from I.hok p _ h3)
  generalize hds : kvs.map (·.2) = ds at hz w1
  cases ds with
  | nil => cases hz
  | cons d0 ds =>
    simp only [minL] at hz
    split at hz
    · rename_i h
      cases hz
      simp only [Bool.and_eq_true, decide_eq_true_eq] at h
      obtain ⟨as, h5⟩ := reads_ofA I _ _ _ w1 h.1.1.2 w2
      have hn : es.size = ds.length + 1 := by
        have a1 := w1.length; have a2 := w2.length
        rw [List.length_map] at a2
        have a3 : es.toList.length = es.size := Array.length_toList
        rw [List.length_cons] at a1; omega
      have hraw : s.heap.DictRaw c es ep := ⟨o, e1, e2, e3⟩
      have hu : X.A.in1.units + PyData.depthAll (d0 :: ds) < cLine := by have := hr.un; have := h.1.2; show X.A.units + 1 + _ < _; omega
      have hr1 : ReadsAll s.heap (es.map (·.val)).toList (d0 :: ds) as := by rw [Array.toList_map]; exact h5
      have hne : c ≠ s.heap.objs.size := Nat.ne_of_lt (Heap.lt_size e1)
      refine call_min_walkH (wpAny_pyIter_values_raw hvw hraw ?_)
      have W : WalksS X.prog X.w X.A.in1 s.heap.objs.size [s.heap.objs.size, c] [s.heap.objs.size] (fun a b => b = a) es.size (fun i v => (es.map (·.val))[i]? = some v) (fun i s' => s'.heap.IsValIter s.heap.objs.size c i es.size ep ∧ s'.heap.DictRaw c es ep) :=
        ((Walks.rawValues (A := X.A.in1) (I.ok.hd hc) s.heap.objs.size c hne es ep).mono_item fun i v _ ⟨hi, e⟩ => by rw [Array.getElem?_map, Array.getElem?_eq_getElem hi, e]; rfl).toS
      refine ⟨s.heap.objs.size, _, _, _, _, _, _, s.heap, (fun i j => dataLt ((d0 :: ds).getD i .none) ((d0 :: ds).getD j .none)), rfl, W, ⟨⟨_, Heap.get?_push_size _ rfl, rfl, rfl⟩, hraw.push _⟩, fun b hb => ?_, by omega, fun b o' e hb => ?_, fun b o' e => Heap.get?_push_of_some _ e, ?_, fun v s' hP m => ?_⟩
      · show b < (s.heap.push _).objs.size
        rw [Heap.size_push]
        rcases List.mem_cons.mp hb with rfl | hb
        · exact Nat.lt_succ_self _
        · rcases List.mem_cons.mp hb with rfl | hb
          · exact Nat.lt_succ_of_lt (Heap.lt_size e1)
          · cases hb
      · exact absurd (Heap.lt_size e) ((List.mem_singleton.mp hb) ▸ Nat.lt_irrefl _)
      · have cm := cmpIn_lt (prog := X.prog) (w := X.w) (A := X.A.in1) hr1 (alikeAll_of h.1.1.1 h.2) hu
        exact cm
      · obtain ⟨h', tk, rfl, hk'⟩ := moved_old (s₂ := { s with heap := s.heap.push { cls := .type "dict_valueiterator", data := .fields #[.ref c, .int 0 0, .int es.size 0, .int ep 0] } }) rfl rfl m
        obtain ⟨bs, r, _, _, _⟩ := readsAll_atA hr1 _ v hP
        have e4 : es.size - 1 = ds.length := by omega
        have e5 := (argBest_fold dataLt PyData.none d0 ds ds.length (Nat.le_refl _)).2
        rw [List.take_length] at e5
        rw [e4] at r
        have r' : Reads h' v (minD d0 ds) bs := reads_keeps hk' (by unfold minD; rw [← e5]; exact r)
        have hP' : (es.toList.map (·.val)).toArray[argBest (fun i j => dataLt ((d0 :: ds).getD i .none) ((d0 :: ds).getD j .none)) (es.size - 1)]? = some v := by
          rw [← hP]; simp
        obtain ⟨w, w3, w4⟩ := pick_item I w1 w2 h.1.1.2 hP' hk' r'
        exact ⟨w, H, I.kept hk', w3, q _ w4⟩
    · cases hz
end
end WM
set_option Elab.async false
set_option linter.all false
set_option maxRecDepth 100000
set_option maxHeartbeats 4000000
/-! WmO: what loops and comprehensions walk. -/
namespace WM
open PySem PySem.Spec PyProof.Rows L2 PySem.W PySem.SeqAt

/-- the iterator J hands out the data xs, as long as nothing of H0 that never changes goes -/
structure Runs (X : Cx) (J : L2.It) (H0 : Hp) (xs : List D) : Prop where
  go : ∀ i H, Ext H0 H → i < xs.length → J.go i H
  stop : ∀ H, Ext H0 H → J.stop xs.length H
  yld : ∀ i H x H', Ext H0 H → J.yld i H x H' → i < xs.length → (∀ b o, H b = some o → H' b = some o) ∧ ∃ d, xs[i]? = some d ∧ Dx X H' x d
def tI (X : Cx) (G : Hp) (bg : Option Addr) (ρ : Env) (xs : List D) (ρ' : Env) : TI := fun σ H R => Rel X G bg ρ σ H ∧ ∀ J H', Rel X G bg ρ' σ H' → Ext H H' → Runs X J H' xs → R J H'

section
variable {X : Cx} {G : Hp} {bg : Option Addr} {ρ ρ1 ρ2 : Env}
theorem runs_list {H : Hp} {a : Addr} {vs : List V} {ds : List D} (o : Obj) (h : H a = some (.frz o (.lst vs))) (r : Dxs X H vs ds) : Runs X (Itl X.K a) H ds where
  go := fun i H' e hi => by
    obtain ⟨v, hv, _⟩ := DnA.get (i := i) (x := ds[i]) r (List.getElem?_eq_getElem hi)
    exact ⟨vs, v, .inl (.inr ⟨o, e.frz _ _ _ h⟩), hv⟩
  stop := fun H' e => ⟨vs, .inl (.inr ⟨o, e.frz _ _ _ h⟩), by rw [r.length]; exact Nat.le_refl _⟩
  yld := fun i H' x H2 e ⟨e2, hy⟩ hi => by
    subst e2
    refine ⟨fun _ _ q => q, ?_⟩
    obtain ⟨d, h1, h2⟩ := DnA.getV r (hy vs (.inl (.inr ⟨o, e.frz _ _ _ h⟩)))
    exact ⟨d, h1, h2.ext e⟩
theorem runs_tup {H : Hp} {a : Addr} {vs : List V} {ds : List D} (h : SqT X.K H a vs) (r : Dxs X H vs ds) : Runs X (Itt X.K a) H ds where
  go := fun i H' e hi => by
    obtain ⟨v, hv, _⟩ := DnA.get (i := i) (x := ds[i]) r (List.getElem?_eq_getElem hi)
    exact ⟨vs, v, SqT.ext e h, hv⟩
  stop := fun H' e => ⟨vs, SqT.ext e h, by rw [r.length]; exact Nat.le_refl _⟩
  yld := fun i H' x H2 e ⟨e2, hy⟩ hi => by
    subst e2
    refine ⟨fun _ _ q => q, ?_⟩
    obtain ⟨d, h1, h2⟩ := DnA.getV r (hy vs (SqT.ext e h))
    exact ⟨d, h1, h2.ext e⟩
theorem rangeD_get : ∀ (n : Nat) (lo : Int) (i : Nat), i < n → (rangeD lo n)[i]? = some (.int (lo + i))
  | 0, _, _, h => absurd h (Nat.not_lt_zero _)
  | n + 1, lo, 0, _ => by simp [rangeD]
  | n + 1, lo, i + 1, h => by
    rw [rangeD, List.getElem?_cons_succ, rangeD_get n (lo + 1) i (Nat.lt_of_succ_lt_succ h)]
    congr 2; omega
theorem rangeD_len : ∀ (n : Nat) (lo : Int), (rangeD lo n).length = n
  | 0, _ => rfl
  | n + 1, lo => by rw [rangeD, List.length_cons, rangeD_len n]
theorem runs_rng {H : Hp} (lo : Int) (n : Nat) : Runs X (Itr lo n) H (rangeD lo n) where
  go := fun i H' e hi => by rw [rangeD_len] at hi; exact hi
  stop := fun H' e => by rw [rangeD_len]; exact Nat.le_refl _
  yld := fun i H' x H2 e ⟨e2, hx⟩ hi => by
    subst e2 hx
    rw [rangeD_len] at hi
    exact ⟨fun _ _ q => q, _, rangeD_get n lo i hi, .int _⟩
theorem numb_get : ∀ (xs : List D) (n : Int) (i : Nat) (x : D), xs[i]? = some x → (numb n xs)[i]? = some (.tuple [.int (n + i), x])
  | [], _, _, _, h => by simp at h
  | y :: xs, n, 0, x, h => by simp at h; subst h; simp [numb]
  | y :: xs, n, i + 1, x, h => by
    rw [numb, List.getElem?_cons_succ, numb_get xs (n + 1) i x (by simpa using h)]
    congr 4; omega
theorem numb_len : ∀ (xs : List D) (n : Int), (numb n xs).length = xs.length
  | [], _ => rfl
  | _ :: xs, n => by rw [numb, List.length_cons, List.length_cons, numb_len xs]
theorem runs_enum {H : Hp} {a : Addr} {vs : List V} {ds : List D} (o : Obj) (h : H a = some (.frz o (.lst vs))) (r : Dxs X H vs ds) : Runs X (Ite X.K a) H (numb 0 ds) where
  go := fun i H' e hi => by
    rw [numb_len] at hi
    obtain ⟨v, hv, _⟩ := DnA.get (i := i) (x := ds[i]) r (List.getElem?_eq_getElem hi)
    exact ⟨vs, v, .inl (.inr ⟨o, e.frz _ _ _ h⟩), hv⟩
  stop := fun H' e => ⟨vs, .inl (.inr ⟨o, e.frz _ _ _ h⟩), by rw [numb_len, r.length]; exact Nat.le_refl _⟩
  yld := fun i H' x H2 e ⟨T, y, e1, hT, e2, hy⟩ hi => by
    subst e1 e2
    refine ⟨same_upd hT, ?_⟩
    obtain ⟨d, h1, h2⟩ := DnA.getV r (hy vs (.inl (.inr ⟨o, e.frz _ _ _ h⟩)))
    refine ⟨_, numb_get ds 0 i d h1, .tup (.inl (.inl upd_same)) (.cons ?_ (.cons ((h2.ext e).ext (Ext.new hT)) .nil))⟩
    rw [Int.zero_add]; exact .int _
theorem pairUp_get : ∀ (xs ys : List D) (i : Nat) (x y : D), xs[i]? = some x → ys[i]? = some y → (pairUp xs ys)[i]? = some (.tuple [x, y])
  | [], _, _, _, _, h, _ => by simp at h
  | _ :: _, [], _, _, _, _, h => by simp at h
  | a :: xs, b :: ys, 0, x, y, h, h' => by simp at h h'; subst h h'; simp [pairUp]
  | a :: xs, b :: ys, i + 1, x, y, h, h' => by rw [pairUp, List.getElem?_cons_succ]; exact pairUp_get xs ys i x y (by simpa using h) (by simpa using h')
theorem pairUp_len : ∀ (xs ys : List D), (pairUp xs ys).length = min xs.length ys.length
  | [], _ => by simp [pairUp]
  | _ :: _, [] => by simp [pairUp]
  | a :: xs, b :: ys => by rw [pairUp, List.length_cons, List.length_cons, List.length_cons, pairUp_len xs ys]; omega

/-! zip of lists and tuples, mixed -/
def itN : Bool → String | true => "list_iterator" | false => "tuple_iterator"
def SeqK : Bool → Heap → Addr → Array Value → Prop | true, h, a, xs => h.IsList a xs | false, h, a, xs => h.IsTuple a xs
def IterK : Bool → Heap → Addr → Addr → Nat → Prop | true, h, it, a, i => h.IsListIter it a i | false, h, it, a, i => h.IsTupleIter it a i
def SqK (K : PySem.W.Frag) : Bool → Hp → Addr → List V → Prop | true, H, a, xs => SqL K H a xs | false, H, a, xs => SqT K H a xs
theorem SeqK.push {k : Bool} {h : Heap} {a : Addr} {xs : Array Value} (x : SeqK k h a xs) (o : Obj) : SeqK k (h.push o) a xs := by
  cases k with
  | true => exact Heap.IsList.push x o
  | false => exact Heap.IsTuple.push x o
theorem SeqK.lt {k : Bool} {h : Heap} {a : Addr} {xs : Array Value} (x : SeqK k h a xs) : a < h.objs.size := by
  cases k with
  | true => obtain ⟨o, e, _⟩ := (show h.IsList a xs from x); exact Heap.lt_size e
  | false => obtain ⟨o, e, _⟩ := (show h.IsTuple a xs from x); exact Heap.lt_size e
theorem iterK_new (k : Bool) (h : Heap) (a : Addr) : IterK k (h.push { cls := .type (itN k), data := .fields #[.ref a, .int 0 0] }) h.objs.size a 0 := by
  cases k <;> exact ⟨_, Heap.get?_push_size _ rfl, rfl, rfl⟩
theorem IterK.at {k : Bool} {h h' : Heap} {it a : Addr} {i : Nat} (x : IterK k h it a i) (e : ∀ o, h.get? it = some o → h'.get? it = some o) : IterK k h' it a i := by
  cases k with
  | true => exact Heap.IsListIter.at x e
  | false => exact Heap.IsTupleIter.at x e
theorem IterK.obj {k : Bool} {h : Heap} {it a : Addr} {i : Nat} (x : IterK k h it a i) : ∃ o, h.get? it = some o ∧ o.data = .fields #[.ref a, .int i 0] := by
  cases k with
  | true => obtain ⟨o, e, _, d⟩ := (show h.IsListIter it a i from x); exact ⟨o, e, d⟩
  | false => obtain ⟨o, e, _, d⟩ := (show h.IsTupleIter it a i from x); exact ⟨o, e, d⟩
theorem pyIter_K {prog : Program} {w : World} {A : Around} {E : Value → Shared → Prop} {s : Shared} (k : Bool) {t : Addr} {items} {Q : Value → Shared → Prop} (ht : SeqK k s.heap t items)
    (hQ : Q (.ref s.heap.objs.size) { s with heap := s.heap.push { cls := .type (itN k), data := .fields #[.ref t, .int 0 0] } }) :
    wpAny (model prog w) A (pyIter (.ref t)) Q E s := by
  cases k with
  | true => exact wpAny_pyIter_list ht hQ
  | false => exact wpAny_pyIter_tuple ht hQ
theorem drawsT {prog : Program} {w : World} {A : Around} (hh : A.handled = none) (it l : Addr) (hne : l ≠ it) (items : Array Value) :
    Draws prog w A it [it, l] items.size (fun i v => items[i]? = some v) (fun i h => h.IsTupleIter it l i ∧ h.IsTuple l items) where
  live := fun _ _ st => let ⟨o, ho, _⟩ := st.1; ⟨o, ho⟩
  frame := fun _ _ _ st hk => ⟨st.1.at fun o e => hk it (by simp) o e, let ⟨o, ho, r⟩ := st.2; ⟨o, hk l (by simp) o ho, r⟩⟩
  item := fun i s Q E hi st hQ => by
    refine RZ.nextOf_tuple_item st.1 st.2 (x := items[i]) (by simp [hi]) fun h' hit' hs' => ?_
    exact hQ _ h' s.toks (by simp [hi]) ⟨hit', let ⟨o, ho, r⟩ := st.2; ⟨o, hs'.extBut _ _ hne ho, r⟩⟩ hs'
  done := fun s Q E st hE => RZ.nextOf_tuple_end hh st.1 st.2 (by simp) fun h' e a b => hE h' e a b
theorem drawsK {prog : Program} {w : World} {A : Around} (hh : A.handled = none) (k : Bool) (it l : Addr) (hne : l ≠ it) (items : Array Value) :
    Draws prog w A it [it, l] items.size (fun i v => items[i]? = some v) (fun i h => IterK k h it l i ∧ SeqK k h l items) := by
  cases k with
  | true => exact Draws.list hh it l hne items
  | false => exact drawsT hh it l hne items
abbrev zkH1 (k1 : Bool) (h : Heap) (l1 : Addr) : Heap := h.push { cls := .type (itN k1), data := .fields #[.ref l1, .int 0 0] }
abbrev zkH2 (k1 k2 : Bool) (h : Heap) (l1 l2 : Addr) : Heap := (zkH1 k1 h l1).push { cls := .type (itN k2), data := .fields #[.ref l2, .int 0 0] }
abbrev zkH3 (k1 k2 : Bool) (h : Heap) (l1 l2 : Addr) : Heap := (zkH2 k1 k2 h l1 l2).push { cls := .type "tuple", data := .seq #[.ref h.objs.size, .ref (zkH1 k1 h l1).objs.size] }
abbrev zkH4 (k1 k2 : Bool) (h : Heap) (l1 l2 : Addr) : Heap := (zkH3 k1 k2 h l1 l2).push { cls := .type "tuple", data := .seq #[.none, .none] }
abbrev zkH5 (k1 k2 : Bool) (h : Heap) (l1 l2 : Addr) : Heap := (zkH4 k1 k2 h l1 l2).push { cls := .type "zip", data := .fields #[.none, .bool false, .bool false, .ref (zkH2 k1 k2 h l1 l2).objs.size, .ref (zkH3 k1 k2 h l1 l2).objs.size] }
theorem meets_zipK_new (k1 k2 : Bool) (l1 l2 : Addr) (xs ys : Array Value) :
    Meets (Builtin.«zip.__new__» ⟨[.type "zip", .ref l1, .ref l2], []⟩) (fun _ R s => SeqK k1 s.heap l1 xs ∧ SeqK k2 s.heap l2 ys ∧
      R (.ok (.ret (.ref (zkH4 k1 k2 s.heap l1 l2).objs.size))) { s with heap := zkH5 k1 k2 s.heap l1 l2 }) :=
  .of_wp fun prog w A R s h => by
    obtain ⟨hp, g, d, tk, os⟩ := s; obtain ⟨hl1, hl2, h⟩ := h
    have hsub := sub_zip
    have hL1 : SeqK k1 (Shared.heap ⟨hp, g, d, tk, os⟩) l1 xs := hl1
    have hL2 : SeqK k2 (Shared.heap ⟨hp.push { cls := .type (itN k1), data := .fields #[.ref l1, .int 0 0] }, g, d, tk, os⟩) l2 ys := SeqK.push hl2 _
    wp_walk using pyIter_K k1 hL1, pyIter_K k2 hL2
    exact ⟨_, rfl, h⟩
theorem call_zipK {prog : Program} {w : World} {A : Around} {E : Value → Shared → Prop} {s : Shared} (k1 k2 : Bool) {l1 l2 : Addr} {xs ys : Array Value} {Q : Value → Shared → Prop} (hl1 : SeqK k1 s.heap l1 xs) (hl2 : SeqK k2 s.heap l2 ys)
    (h : ∀ h', IsZip h' (s.heap.objs.size + 4) (s.heap.objs.size + 2) (s.heap.objs.size + 3) .none → IsPair h' (s.heap.objs.size + 2) (.ref s.heap.objs.size) (.ref (s.heap.objs.size + 1)) →
      IsPair h' (s.heap.objs.size + 3) .none .none → IterK k1 h' s.heap.objs.size l1 0 → IterK k2 h' (s.heap.objs.size + 1) l2 0 → h'.objs.size = s.heap.objs.size + 5 →
      (∀ c o, s.heap.get? c = some o → h'.get? c = some o) → Q (.ref (s.heap.objs.size + 4)) { s with heap := h' }) :
    wpAny (model prog w) A (call (.type "zip") [.ref l1, .ref l2]) Q E s := by
  refine callType_new PySem.F.called_zip (by decide) (PySem.F.typeCall_zip_2 _ _) (PySem.F.newCall_zip_2 _ _) (fun obj => PySem.F.args_object_init_3 obj _ _) PySem.F.entry_zip_new
    (meets_zipK_new k1 k2 l1 l2 xs ys) ⟨hl1, hl2, ?_⟩
  have z1 : (zkH1 k1 s.heap l1).objs.size = s.heap.objs.size + 1 := Heap.size_push ..
  have z2 : (zkH2 k1 k2 s.heap l1 l2).objs.size = s.heap.objs.size + 2 := by rw [Heap.size_push, z1]
  have z3 : (zkH3 k1 k2 s.heap l1 l2).objs.size = s.heap.objs.size + 3 := by rw [Heap.size_push, z2]
  have z4 : (zkH4 k1 k2 s.heap l1 l2).objs.size = s.heap.objs.size + 4 := by rw [Heap.size_push, z3]
  have z5 : (zkH5 k1 k2 s.heap l1 l2).objs.size = s.heap.objs.size + 5 := by rw [Heap.size_push, z4]
  have g5 : (zkH5 k1 k2 s.heap l1 l2).get? (zkH4 k1 k2 s.heap l1 l2).objs.size = some _ := Heap.get?_push_size _ rfl
  have g4 : (zkH5 k1 k2 s.heap l1 l2).get? (zkH3 k1 k2 s.heap l1 l2).objs.size = some _ := Heap.get?_push_of_some _ (Heap.get?_push_size _ rfl)
  have g3 : (zkH5 k1 k2 s.heap l1 l2).get? (zkH2 k1 k2 s.heap l1 l2).objs.size = some _ := Heap.get?_push_of_some _ (Heap.get?_push_of_some _ (Heap.get?_push_size _ rfl))
  have g2 : IterK k2 (zkH5 k1 k2 s.heap l1 l2) (zkH1 k1 s.heap l1).objs.size l2 0 := (iterK_new k2 (zkH1 k1 s.heap l1) l2).at fun o e => Heap.get?_push_of_some _ (Heap.get?_push_of_some _ (Heap.get?_push_of_some _ e))
  have g1 : IterK k1 (zkH5 k1 k2 s.heap l1 l2) s.heap.objs.size l1 0 := (iterK_new k1 s.heap l1).at fun o e => Heap.get?_push_of_some _ (Heap.get?_push_of_some _ (Heap.get?_push_of_some _ (Heap.get?_push_of_some _ e)))
  show _ ∧ _
  rw [z2, z3, z4] at g5
  rw [z1, z2] at g3
  rw [z3] at g4
  rw [z1] at g2
  rw [z4]
  exact ⟨⟨_, g5, rfl⟩, h _ g5 g3 g4 g1 g2 z5 fun c o x =>
    Heap.get?_push_of_some _ (Heap.get?_push_of_some _ (Heap.get?_push_of_some _ (Heap.get?_push_of_some _ (Heap.get?_push_of_some _ x))))⟩
theorem Sq_of {pins : List (Addr × Obj)} {σ : L2.St} {H : Hp} {s : Shared} (k : Bool) (I : Inv X pins σ H s) {a : Addr} {xs : List V} (h : SqK X.K k H a xs) : ∃ its, Vals xs its ∧ SeqK k s.heap a its.toArray := by
  cases k with
  | true => obtain ⟨its, rv, p, _⟩ := I.list h; exact ⟨its, rv, p.isList⟩
  | false => obtain ⟨its, rv, p, _⟩ := I.tuple h; exact ⟨its, rv, p⟩
theorem Sq_inj {pins : List (Addr × Obj)} {σ : L2.St} {H : Hp} {s : Shared} (k : Bool) (I : Inv X pins σ H s) {a : Addr} {xs ys : List V} (h : SqK X.K k H a xs) (h' : SqK X.K k H a ys) : xs = ys := by
  cases k with
  | true => exact I.list_inj h h'
  | false => exact I.tuple_inj h h'
def ItzK (K : PySem.W.Frag) (k1 k2 : Bool) (a b : Addr) : L2.It :=
  ⟨fun i H => ∃ (xs ys : List V) (x y : V), SqK K k1 H a xs ∧ SqK K k2 H b ys ∧ xs[i]? = some x ∧ ys[i]? = some y,
    fun i H v H' => ∃ T x y, v = .ref T ∧ H T = none ∧ H' = upd H T (.tup [x, y]) ∧ (∀ xs, SqK K k1 H a xs → xs[i]? = some x) ∧ ∀ ys, SqK K k2 H b ys → ys[i]? = some y,
    fun i H => ∃ xs ys : List V, SqK K k1 H a xs ∧ SqK K k2 H b ys ∧ i = min xs.length ys.length⟩
theorem turn_zipK {P : Program} {w : World} {K : PySem.W.Frag} {elts : List Expr} {kk : Nat} {tpos : Pos} {k1 k2 : Bool} {a b z TI TO i1 i2 : Addr} (S : ZipSep2 z TI TO i1 i2 [i1, a] [i2, b]) (h1 : a ≠ i1) (h2 : b ≠ i2) :
    Turn P w K (.Tuple elts kk tpos) (ItzK K k1 k2 a b) [z, TI, TO, i1, i2] z (fun i h => IsZip h z TI TO .none ∧ IsPair h TI (.ref i1) (.ref i2) ∧ (∃ x y, IsPair h TO x y) ∧ IterK k1 h i1 a i ∧ IterK k2 h i2 b i) where
  mem := by simp
  obj := fun i h st c hc => by
    obtain ⟨hz, hTI, ⟨x, y, hTO⟩, q1, q2⟩ := st
    obtain ⟨o1, e1, d1⟩ := q1.obj
    obtain ⟨o2, e2, d2⟩ := q2.obj
    have e' : c = z ∨ c = TI ∨ c = TO ∨ c = i1 ∨ c = i2 := by simpa using hc
    rcases e' with q | q | q | q | q
    · rw [q]; exact ⟨_, hz, fun v q => nomatch q⟩
    · rw [q]; exact ⟨_, hTI, fun v q => nomatch q⟩
    · rw [q]; exact ⟨_, hTO, fun v q => nomatch q⟩
    · rw [q]; exact ⟨o1, e1, fun v q => by rw [d1] at q; cases q⟩
    · rw [q]; exact ⟨o2, e2, fun v q => by rw [d2] at q; cases q⟩
  keep := fun i h h' st k => by
    obtain ⟨hz, hTI, ⟨x, y, hTO⟩, q1, q2⟩ := st
    exact ⟨k z (by simp) _ hz, k TI (by simp) _ hTI, ⟨x, y, k TO (by simp) _ hTO⟩, q1.at fun o q => k i1 (by simp) o q, q2.at fun o q => k i2 (by simp) o q⟩
  item := by
    intro X hP hw hK hc i pins s σ H E I hf st hg
    subst hP hw hK
    obtain ⟨hz, hTI, ⟨x0, y0, hTO⟩, q1, q2⟩ := st
    obtain ⟨xs, ys, x, y, hqx, hqy, hx, hy⟩ := hg
    obtain ⟨its, rv, p⟩ := Sq_of k1 I hqx
    obtain ⟨its2, rv2, p2⟩ := Sq_of k2 I hqy
    obtain ⟨u, hu, ru⟩ := rv.get hx
    obtain ⟨u2, hu2, ru2⟩ := rv2.get hy
    have hh := I.ok.hd hc
    have hzl : z < s.heap.objs.size := Heap.lt_size hz
    have l1 : i < its.toArray.size := by rw [List.size_toArray]; exact (List.getElem?_eq_some_iff.mp hu).1
    have l2 : i < its2.toArray.size := by rw [List.size_toArray]; exact (List.getElem?_eq_some_iff.mp hu2).1
    refine wpAny_pyNext_zipD2_item S (drawsK (A := X.A.in1) hh k1 i1 a h1 its.toArray) (drawsK (A := X.A.in1) hh k2 i2 b h2 its2.toArray) hz hTI hTO ⟨q1, p⟩ ⟨q2, p2⟩ l1 l2 fun x1 x2 h' tk y1 y2 z' TO' st1 st2 hT hsz hk => ?_
    have e1 : x1 = u := by have : its[i]? = some x1 := by simpa using y1
                           rw [hu] at this; exact (Option.some.inj this).symm
    have e2 : x2 = u2 := by have : its2[i]? = some x2 := by simpa using y2
                            rw [hu2] at this; exact (Option.some.inj this).symm
    subst e1 e2
    refine ⟨_, rfl, wpAny_letOwnedTupleGo_zip (s := { s with heap := h', toks := tk }) z' fun h'' z'' sb => ?_⟩
    have hT2 : h''.get? s.heap.objs.size = some { cls := .type "tuple", data := .seq #[x1, x2] } := (sb.2 _ (Nat.ne_of_gt hzl)).trans hT
    have new : ObjOk X.prog X.w (upd H s.heap.objs.size (.tup [x, y])) h'' s.heap.objs.size (.tup [x, y]) :=
      ⟨by show 2 ≤ sizeLine; decide, [x1, x2], .cons ru (.cons ru2 .nil), ⟨_, hT2, rfl, _, rfl⟩⟩
    have I1 : Inv X pins σ (upd H s.heap.objs.size (.tup [x, y])) { s with heap := h'', toks := tk } :=
      I.turnedNew (t' := tk) (ch := [z, TI, TO, i1, i2]) (fun c o hb q => (sb.2 c (fun q' => hb (by simp [q']))).trans (hk c o (fun q' => hb (by simp [q'])) (fun q' => hb (by simp [q'])) (fun q' => hb (by simp [q'])) (fun q' => hb (by simp [q'])) q)) hf (Nat.le_refl _) new
    refine ⟨.ref s.heap.objs.size, _, I1, rfl, ⟨_, x, y, rfl, I.hok.fresh (Nat.le_refl _), rfl, fun l hl => by rw [Sq_inj k1 I hl hqx]; exact hx, fun l hl => by rw [Sq_inj k2 I hl hqy]; exact hy⟩, ⟨z'', ?_, ⟨x1, x2, ?_⟩, ?_, ?_⟩, fun c hcm => ?_⟩
    · exact (sb.2 _ S.TIz).trans (hk _ _ S.TIz S.TITO S.TIi1 S.TIi2 hTI)
    · exact (sb.2 _ S.TOz).trans TO'
    · exact st1.1.at fun o q => (sb.2 _ S.zi1.symm).trans q
    · exact st2.1.at fun o q => (sb.2 _ S.zi2.symm).trans q
    · have hlt : c < s.heap.objs.size := by
        have e' : c = z ∨ c = TI ∨ c = TO ∨ c = i1 ∨ c = i2 := by simpa using hcm
        rcases e' with q | q | q | q | q
        · rw [q]; exact hzl
        · rw [q]; exact Heap.lt_size hTI
        · rw [q]; exact Heap.lt_size hTO
        · rw [q]; obtain ⟨_, e1, _⟩ := q1.obj; exact Heap.lt_size e1
        · rw [q]; obtain ⟨_, e2, _⟩ := q2.obj; exact Heap.lt_size e2
      rw [upd_ne (Nat.ne_of_lt hlt)]
      exact (hf c hcm).1
  done := by
    intro X hP hw hK hc i pins s σ H E I hf st hg
    subst hP hw hK
    obtain ⟨hz, hTI, ⟨x0, y0, hTO⟩, q1, q2⟩ := st
    obtain ⟨xs, ys, hqx, hqy, hend⟩ := hg
    obtain ⟨its, rv, p⟩ := Sq_of k1 I hqx
    obtain ⟨its2, rv2, p2⟩ := Sq_of k2 I hqy
    have l1 := rv.length
    have l2 := rv2.length
    have hh := I.ok.hd hc
    exact wpAny_pyNext_zipD2_end S (drawsK (A := X.A.in1) hh k1 i1 a h1 its.toArray) (drawsK (A := X.A.in1) hh k2 i2 b h2 its2.toArray) hz hTI hTO ⟨q1, p⟩ ⟨q2, p2⟩ (by rw [List.size_toArray]; omega) (by rw [List.size_toArray]; omega) (by rw [List.size_toArray, List.size_toArray]; omega) fun h' tk hk => ⟨rfl, I.turnedL (t' := tk) (ch := [z, TI, TO, i1, i2]) (fun c o hb q =>
      hk c o (fun q' => hb (by simp [q'])) (fun q' => hb (by simp [q'])) (fun q' => hb (by simp [q'])) (fun q' => hb (by simp [q'])) q) hf⟩
  self := fun A i s Q E st h => wpAny_pyIter_zip st.1 h
theorem zsep (n a b : Nat) (la : a < n) (lb : b < n) : ZipSep2 (n + 4) (n + 2) (n + 3) n (n + 1) [n, a] [n + 1, b] := by
  have nm : ∀ {x y z : Nat}, x ≠ y → x ≠ z → x ∉ [y, z] := fun h1 h2 hm => by
    rcases List.mem_cons.mp hm with e | hm
    · exact h1 e
    · rcases List.mem_cons.mp hm with e | hm
      · exact h2 e
      · cases hm
  have d : ∀ {x y : Nat}, (x < y ∨ y < x) → x ≠ y := fun h => by omega
  exact ⟨d (x := n + 2) (by omega), d (x := n + 3) (by omega), d (x := n + 2) (by omega), d (x := n + 2) (by omega), List.mem_cons_self, nm (x := n + 4) (by omega) (by omega), nm (x := n + 3) (by omega) (by omega), d (x := n + 2) (by omega), List.mem_cons_self, nm (x := n + 4) (by omega) (by omega), nm (x := n + 3) (by omega) (by omega), nm (x := n) (by omega) (by omega), nm (x := n + 1) (by omega) (by omega)⟩
def iZipK (K : PySem.W.Frag) (ta : TA) : TI := fun σ H R => ta σ H fun vs H1 => ∃ k1 k2 a b xs ys, vs = [.ref a, .ref b] ∧ SqK K k1 H1 a xs ∧ SqK K k2 H1 b ys ∧ R (ItzK K k1 k2 a b) H1
theorem pi_zipK {e e2 : Expr} {ta : TA} {p pos tpos : Pos} {elts : List Expr} {kk : Nat} (hg : Gl X "zip") (hm : X.mg "zip" = none) (ha : PA X [e, e2] ta)
    (hs : starEach [e, e2] X.env = (false, eval e X.env) :: starEach [e2] X.env) (hpl : (backTo pos (starEach [e2] X.env)).any (·.1) = false) :
    PI X (.Tuple elts kk tpos) (.Call (.Name "zip" p) [e, e2] [] pos) (iZipK X.K ta) := by
  refine ⟨fun pins s σ H R I h => ?_⟩
  refine Call_ (ld_blt I hg hm PyProof.Rows.boot_zip (PyProof.Rows.callWith_type1 (thn (ha.run pos pins s σ H _ I h) fun us s1 ⟨vs, H1, I1, r1, q1⟩ => ?_) hs hpl))
  obtain ⟨k1, k2, a, b, xs, ys, ex, hqx, hqy, q⟩ := q1
  subst ex
  cases r1 with
  | cons r rr =>
    cases rr with
    | cons r' rr =>
      cases rr
      cases r
      cases r'
      have fresh5 : ∀ c, c ∈ [s1.heap.objs.size + 4, s1.heap.objs.size + 2, s1.heap.objs.size + 3, s1.heap.objs.size, s1.heap.objs.size + 1] → FpOk X pins H1 c := fun c hcm => by
        have e' : c = s1.heap.objs.size + 4 ∨ c = s1.heap.objs.size + 2 ∨ c = s1.heap.objs.size + 3 ∨ c = s1.heap.objs.size ∨ c = s1.heap.objs.size + 1 := by simpa using hcm
        have hle : s1.heap.objs.size ≤ c := by
          rcases e' with z | z | z | z | z
          · rw [z]; exact Nat.le_add_right _ _
          · rw [z]; exact Nat.le_add_right _ _
          · rw [z]; exact Nat.le_add_right _ _
          · rw [z]; exact Nat.le_refl _
          · rw [z]; exact Nat.le_add_right _ _
        exact I1.fpOk hle (I1.hok.fresh hle)
      obtain ⟨its, rv, p1⟩ := Sq_of k1 I1 hqx
      obtain ⟨its2, rv2, p2⟩ := Sq_of k2 I1 hqy
      have la := p1.lt
      have lb := p2.lt
      refine call_zipK k1 k2 p1 p2 fun h' hz hTI hTO h1 h2 hsz hk => wpAny_pyIter_zip hz ?_
      have I2 : Inv X pins σ H1 { s1 with heap := h' } := I1.kept (t' := s1.toks) hk
      have S := zsep s1.heap.objs.size a b la lb
      exact ⟨s1.heap.objs.size + 4, [s1.heap.objs.size + 4, s1.heap.objs.size + 2, s1.heap.objs.size + 3, s1.heap.objs.size, s1.heap.objs.size + 1], _, _, H1, rfl, I2, turn_zipK S (Nat.ne_of_lt la) (Nat.ne_of_lt (Nat.lt_succ_of_lt lb)), ⟨hz, hTI, ⟨_, _, hTO⟩, h1, h2⟩, fresh5, q⟩
theorem runs_zip {H : Hp} {k1 k2 : Bool} {a b : Addr} {vs us : List V} {ds es : List D} (h1 : ∀ H', Ext H H' → SqK X.K k1 H' a vs) (h2 : ∀ H', Ext H H' → SqK X.K k2 H' b us) (r1 : Dxs X H vs ds) (r2 : Dxs X H us es) : Runs X (ItzK X.K k1 k2 a b) H (pairUp ds es) where
  go := fun i H' e hi => by
    rw [pairUp_len] at hi
    obtain ⟨v, hv, _⟩ := DnA.get (i := i) (x := ds[i]'(by omega)) r1 (List.getElem?_eq_getElem _)
    obtain ⟨u, hu, _⟩ := DnA.get (i := i) (x := es[i]'(by omega)) r2 (List.getElem?_eq_getElem _)
    exact ⟨vs, us, v, u, h1 H' e, h2 H' e, hv, hu⟩
  stop := fun H' e => ⟨vs, us, h1 H' e, h2 H' e, by rw [pairUp_len, r1.length, r2.length]⟩
  yld := fun i H' x H2 e ⟨T, y1, y2, e1, hT, e2, f1, f2⟩ hi => by
    subst e1 e2
    refine ⟨same_upd hT, ?_⟩
    obtain ⟨d, a1, a2⟩ := DnA.getV r1 (f1 vs (h1 H' e))
    obtain ⟨d', b1, b2⟩ := DnA.getV r2 (f2 us (h2 H' e))
    exact ⟨_, pairUp_get ds es i d d' a1 b1, .tup (.inl (.inl upd_same)) (.cons ((a2.ext e).ext (Ext.new hT)) (.cons ((b2.ext e).ext (Ext.new hT)) .nil))⟩

/-! the keys of a dict -/
def Itd (d : Addr) (o : Obj) (es : Array DictEntry) (ks : List V) : L2.It :=
  ⟨fun i H => H d = some (.frz o (DX d es)) ∧ i < es.size, fun i H x H' => H' = H ∧ ks[i]? = some x, fun i H => H d = some (.frz o (DX d es)) ∧ i = es.size⟩
theorem dx_frz {pins : List (Addr × Obj)} {σ : L2.St} {H : Hp} {s : Shared} (I : Inv X pins σ H s) {d : Addr} {o : Obj} {es : Array DictEntry} (h : H d = some (.frz o (DX d es))) : (d == sysModules) = false ∧ ∃ ep, s.heap.get? d = some o ∧ o.ExactDict ∧ o.data = .dict es ep := by
  obtain ⟨e, ⟨o', ep, h1, h2, h3, h4⟩, _⟩ := (show ObjOk X.prog X.w H s.heap d (.frz o (DX d es)) from I.hok d _ h)
  rw [e] at h1; cases h1
  exact ⟨h4, ep, e, h2, h3⟩
theorem turn_dict {P : Program} {w : World} {K : PySem.W.Frag} {tg : Expr} {d it : Addr} (hne : d ≠ it) {o : Obj} {es : Array DictEntry} {ep : Nat} (ho : o.data = .dict es ep) {ks : List V} (rv : Vals ks (es.toList.map (·.key))) :
    Turn P w K tg (Itd d o es ks) [it] it (fun i h => h.IsKeyIter it d i es.size ep) where
  mem := by simp
  obj := fun i h st b hb => by
    have e : b = it := by simpa using hb
    subst e
    obtain ⟨o, e, c, d⟩ := st
    exact ⟨o, e, fun v z => by rw [d] at z; cases z⟩
  keep := fun i h h' st k => st.at fun o e => k it (by simp) o e
  item := by
    intro X hP hw hK hc i pins s σ H E I hf st hg
    subst hP hw hK
    obtain ⟨hd, hi⟩ := hg
    obtain ⟨_, ep', e1, e2, e3⟩ := dx_frz I hd
    rw [ho] at e3; cases e3
    obtain ⟨f0, f1, f2, f3, f4, f5⟩ := hf it (by simp)
    have W := Walks.rawKeys (prog := X.prog) (w := X.w) (A := X.A) (I.ok.hd hc) it d hne es ep
    refine W.item i s _ _ hi ⟨st, o, e1, e2, ho⟩ fun v h' tk hv st' kk => ?_
    obtain ⟨hi', rfl⟩ := hv
    have I1 : Inv X pins σ H { s with heap := h', toks := tk } := I.turned (fun b o hb e => kk b o (by simpa using hb) e) f0 f1 f3 f4 f5
    have hu : (es.toList.map (·.key))[i]? = some es[i].key := by simp [hi']
    obtain ⟨oo, q1, q2, q3⟩ := id st'.1
    cases hx : ks[i]? with
    | none => rw [rv.none_of hx] at hu; cases hu
    | some x =>
      obtain ⟨u', e4, e5⟩ := rv.get hx
      rw [hu] at e4; cases e4
      exact ⟨_, rfl, go_of (s := { s with heap := h', toks := tk }) q1 q2 q3 (by decide) ⟨x, H, I1, e5, ⟨rfl, hx⟩, st'.1, fun b hb => (hf b hb).1⟩⟩
  done := by
    intro X hP hw hK hc i pins s σ H E I hf st hg
    subst hP hw hK
    obtain ⟨hd, rfl⟩ := hg
    obtain ⟨_, ep', e1, e2, e3⟩ := dx_frz I hd
    rw [ho] at e3; cases e3
    obtain ⟨f0, f1, f2, f3, f4, f5⟩ := hf it (by simp)
    have W := Walks.rawKeys (prog := X.prog) (w := X.w) (A := X.A) (I.ok.hd hc) it d hne es ep
    exact W.done s _ _ ⟨st, o, e1, e2, ho⟩ fun h' tk kk => ⟨rfl, I.turned (fun b o hb e => kk b o (by simpa using hb) e) f0 f1 f3 f4 f5⟩
  self := fun _ _ _ _ _ st h => wpAny_pyIter_keyiter st h
theorem runs_dict {H : Hp} {d : Addr} {o : Obj} {es : Array DictEntry} {ks : List V} {ds : List D} (h : H d = some (.frz o (DX d es))) (hl : es.size = ds.length) (r : Dxs X H ks ds) : Runs X (Itd d o es ks) H ds where
  go := fun i H' e hi => ⟨e.frz _ _ _ h, by rw [hl]; exact hi⟩
  stop := fun H' e => ⟨e.frz _ _ _ h, hl.symm⟩
  yld := fun i H' x H2 e ⟨e2, hy⟩ hi => by
    subst e2
    refine ⟨fun _ _ q => q, ?_⟩
    obtain ⟨d, h1, h2⟩ := DnA.getV r hy
    exact ⟨d, h1, h2.ext e⟩
end
end WM
set_option Elab.async false
set_option linter.all false
set_option maxRecDepth 100000
set_option maxHeartbeats 4000000
/-! WmP: targets. -/
namespace WM
open PySem PySem.Spec PyProof.Rows L2 PySem.W PySem.SeqAt

/-! targets -/
def gNames : List Nat → TGs
  | [] => gNil
  | i :: is => gCons (gName i) (gNames is)
def tgT (K : PySem.W.Frag) : Tg → TG
  | .nm i => gName i
  | .tp is => gTup K is.length (gNames is)
/-- but for the slots is, σ2 is σ -/
def Tch (is : List Nat) (σ2 σ : L2.St) : Prop := σ2.length = σ.length ∧ ∀ i, i ∉ is → σ2[i]? = σ[i]?
section
variable {cc : CC} {X : Cx} {lv : Nat} {G : Hp} {bg : Option Addr}
theorem pg_nm (o : OkX cc X lv) {i : Nat} {x : Str} {p : Pos} (h : stB cc i x = true) : PG X (.Name x p) (gName i) := by
  unfold stB at h
  rw [Bool.and_eq_true, decide_eq_true_eq] at h
  obtain ⟨h1, h2⟩ := o.st x h.2
  exact pg_name o.nd (by rw [o.n]; exact h.1) h1 h2
theorem pgs_names (o : OkX cc X lv) : ∀ (is : List Nat) (es : List Expr), okTg.okTgs cc is es = true → PGs X es (gNames is) ∧ (assignEach es X.env).length = is.length ∧ (assignEach es X.env).findIdx? (·.1) = none
  | [], [], _ => ⟨pgs_nil, rfl, rfl⟩
  | [], _ :: _, h => by simp [okTg.okTgs] at h
  | _ :: _, [], h => by simp [okTg.okTgs] at h
  | i :: is, e :: es, h => by
    cases e with
    | Name x p =>
      simp only [okTg.okTgs, Bool.and_eq_true] at h
      obtain ⟨h1, h2, h3⟩ := pgs_names o is es h.2
      refine ⟨pgs_cons (pg_nm o h.1) h1 rfl, ?_, ?_⟩
      · show (assignEach es X.env).length + 1 = is.length + 1
        rw [h2]
      · show List.findIdx? (·.1) ((false, _) :: assignEach es X.env) = none
        rw [List.findIdx?_cons]
        simp [h3]
    | _ => simp [okTg.okTgs] at h
theorem pg_tg (o : OkX cc X lv) {g : Tg} {tg : Expr} (h : okTg cc g tg = true) : PG X tg (tgT X.K g) := by
  cases g with
  | nm i =>
    cases tg with
    | Name x p => exact pg_nm o h
    | _ => simp [okTg] at h
  | tp is =>
    cases tg with
    | Tuple es k p =>
      obtain ⟨h1, h2, h3⟩ := pgs_names o is es h
      exact pg_tup o.calm h1 h2 h3
    | _ => simp [okTg] at h
theorem names_ok : ∀ (is : List Nat) (xs : List D) (vs : List V) (ρ ρ2 : Env) (σ : L2.St) (H : Hp) (Q : L2.St → Hp → Prop), Rel X G bg ρ σ H → Dxs X H vs xs → storeAll ρ is xs = some ρ2 →
    (∀ σ2, Rel X G bg ρ2 σ2 H → Tch is σ2 σ → Q σ2 H) → gNames is vs σ H Q
  | [], xs, vs, ρ, ρ2, σ, H, Q, R, d, h, q => by
    cases d with
    | nil => cases h; exact ⟨rfl, q σ R ⟨rfl, fun _ _ => rfl⟩⟩
    | cons _ _ => cases h
  | i :: is, xs, vs, ρ, ρ2, σ, H, Q, R, d, h, q => by
    cases d with
    | nil => cases h
    | cons d1 d2 =>
      exact ⟨_, _, rfl, names_ok is _ _ _ ρ2 _ H Q (R.store i d1) d2 h fun σ2 R2 k => q σ2 R2 ⟨by rw [k.1, List.length_set], fun j hj => by
        rw [k.2 j fun z => hj (List.mem_cons_of_mem _ z), List.getElem?_set_ne (fun z => hj (by rw [z]; exact List.mem_cons_self))]⟩⟩
theorem storeAll_len : ∀ (is : List Nat) (xs : List D) (ρ ρ2 : Env), storeAll ρ is xs = some ρ2 → is.length = xs.length
  | [], [], _, _, _ => rfl
  | [], _ :: _, _, _, h => by cases h
  | _ :: _, [], _, _, h => by cases h
  | i :: is, x :: xs, ρ, ρ2, h => by rw [List.length_cons, List.length_cons, storeAll_len is xs _ ρ2 h]
theorem tg_ok {g : Tg} {x : D} {v : V} {ρ ρ2 : Env} {σ : L2.St} {H : Hp} {Q : L2.St → Hp → Prop} (R : Rel X G bg ρ σ H) (d : Dx X H v x) (h : bindT ρ g x = some ρ2) (q : ∀ σ2, Rel X G bg ρ2 σ2 H → Tch (tgSlots g) σ2 σ → Q σ2 H) : tgT X.K g v σ H Q := by
  cases g with
  | nm i =>
    cases h
    exact q _ (R.store i d) ⟨List.length_set, fun j hj => List.getElem?_set_ne fun z => hj (by rw [z]; exact List.mem_cons_self)⟩
  | tp is =>
    cases x <;> simp only [bindT] at h <;> first | cases h | skip
    obtain ⟨a, vs, rfl, h1, h2⟩ := tup_of d
    exact ⟨a, vs, rfl, h1, by rw [h2.length, storeAll_len is _ _ _ h], names_ok is _ _ _ _ _ _ _ R h2 h q⟩
end

end WM
set_option Elab.async false
set_option linter.all false
set_option maxRecDepth 100000
set_option maxHeartbeats 4000000
/-! WmQ: iterators and comprehensions keep the evaluator's word. -/
namespace WM
open PySem PySem.Spec PyProof.Rows L2 PySem.W PySem.SeqAt

section
variable (X : Cx)
/-- what the evaluator says of a text, wherever it says anything -/
def uE (e : E) : TE := fun σ H Q => ∃ G bg ρ d ρ', den e ρ = some (d, ρ') ∧ tS X G bg ρ d ρ' σ H Q
def uF (e : E) : TE := fun σ H Q => ∃ G bg ρ xs ρ', den e ρ = some (.list xs, ρ') ∧ tF X G bg ρ xs ρ' σ H Q
def uFD (e : E) : TE := fun σ H Q => ∃ G bg ρ xs ρ', den e ρ = some (.dict xs, ρ') ∧ tFD X G bg ρ xs ρ' σ H Q
def uT (t : T) : TT := fun σ H Q => ∃ G bg ρ d ρ', denT t ρ = some (d, ρ') ∧ tST X G bg ρ d ρ' σ H Q
def uTs (t : Ts) : TT := fun σ H Q => ∃ G bg ρ d ρ', denTs t ρ = some (d, ρ') ∧ tST X G bg ρ d ρ' σ H Q
def uI (t : It) : TI := fun σ H Q => ∃ G bg ρ d ρ', denIt t ρ = some (d, ρ') ∧ tI X G bg ρ d ρ' σ H Q
end
section
variable {cc : CC} {X : Cx} {lv : Nat} {G : Hp} {bg : Option Addr} {ρ ρ1 ρ2 ρ3 ρ5 : Env} {a b c : Expr} {x y z : D} {pos : Pos} {xs ys : List D}
theorem of_uE {e : E} {a : Expr} (h : PE X a (uE X e)) {ρ ρ' : Env} {d : D} (hd : den e ρ = some (d, ρ')) : PE X a (tS X G bg ρ d ρ') := h.mono fun σ H Q q => ⟨G, bg, ρ, d, ρ', hd, q⟩
theorem of_uF {e : E} {a : Expr} (h : PE X a (uF X e)) {ρ ρ' : Env} {d : List D} (hd : den e ρ = some (.list d, ρ')) : PE X a (tF X G bg ρ d ρ') := h.mono fun σ H Q q => ⟨G, bg, ρ, d, ρ', hd, q⟩
theorem of_uFD {e : E} {a : Expr} (h : PE X a (uFD X e)) {ρ ρ' : Env} {d : List (D × D)} (hd : den e ρ = some (.dict d, ρ')) : PE X a (tFD X G bg ρ d ρ') := h.mono fun σ H Q q => ⟨G, bg, ρ, d, ρ', hd, q⟩
theorem of_uT {e : T} {a : Expr} (h : PT X a (uT X e)) {ρ ρ' : Env} {d : Bool} (hd : denT e ρ = some (d, ρ')) : PT X a (tST X G bg ρ d ρ') := h.mono fun σ H Q q => ⟨G, bg, ρ, d, ρ', hd, q⟩
theorem of_uI {e : It} {a tg : Expr} (h : PI X tg a (uI X e)) {ρ ρ' : Env} {d : List D} (hd : denIt e ρ = some (d, ρ')) : PI X tg a (tI X G bg ρ d ρ') := h.mono fun σ H Q q => ⟨G, bg, ρ, d, ρ', hd, q⟩
theorem to_uE {e : E} {a : Expr} (h : ∀ G bg ρ ρ' d, den e ρ = some (d, ρ') → PE X a (tS X G bg ρ d ρ')) : PE X a (uE X e) := ⟨fun pins s σ H Q I ⟨G, bg, ρ, d, ρ', hd, q⟩ => (h G bg ρ ρ' d hd).run pins s σ H Q I q⟩
theorem to_uF {e : E} {a : Expr} (h : ∀ G bg ρ ρ' d, den e ρ = some (.list d, ρ') → PE X a (tF X G bg ρ d ρ')) : PE X a (uF X e) := ⟨fun pins s σ H Q I ⟨G, bg, ρ, d, ρ', hd, q⟩ => (h G bg ρ ρ' d hd).run pins s σ H Q I q⟩
theorem to_uFD {e : E} {a : Expr} (h : ∀ G bg ρ ρ' d, den e ρ = some (.dict d, ρ') → PE X a (tFD X G bg ρ d ρ')) : PE X a (uFD X e) := ⟨fun pins s σ H Q I ⟨G, bg, ρ, d, ρ', hd, q⟩ => (h G bg ρ ρ' d hd).run pins s σ H Q I q⟩
theorem to_uT {e : T} {a : Expr} (h : ∀ G bg ρ ρ' d, denT e ρ = some (d, ρ') → PT X a (tST X G bg ρ d ρ')) : PT X a (uT X e) := ⟨fun pins s σ H Q I ⟨G, bg, ρ, d, ρ', hd, q⟩ => (h G bg ρ ρ' d hd).run pins s σ H Q I q⟩
theorem to_uI {e : It} {a tg : Expr} (h : ∀ G bg ρ ρ' d, denIt e ρ = some (d, ρ') → PI X tg a (tI X G bg ρ d ρ')) : PI X tg a (uI X e) := ⟨fun pins s σ H Q I ⟨G, bg, ρ, d, ρ', hd, q⟩ => (h G bg ρ ρ' d hd).run pins s σ H Q I q⟩

/-! functions of one datum -/
theorem s_fn (o : OkX cc X lv) (f : Fn) (hf : f ≠ .sortedSet ∧ f ≠ .lenSet ∧ f ≠ .minVals ∧ f ≠ .tupVals) {p : Pos} (hg : glB cc (fnName f) = true) (hs : notStar a = true) (ha : PE X a (tS X G bg ρ x ρ1)) (hz : evFn f x = some z) : PE X (.Call (.Name (fnName f) p) [a] [] pos) (tS X G bg ρ z ρ1) := by
  cases f with
  | len => exact s_fnB o c_len hg (by decide +kernel) (by decide +kernel) hs ha hz
  | min => exact s_fnB o (c_min o.room o.calm) hg (by decide +kernel) (by decide +kernel) hs ha hz
  | max => exact s_fnB o (c_max o.room o.calm) hg (by decide +kernel) (by decide +kernel) hs ha hz
  | sum => exact s_fnB o (c_sum o.calm) hg (by decide +kernel) (by decide +kernel) hs ha hz
  | sorted => exact s_fnB o (c_sorted o.room o.calm) hg (by decide +kernel) (by decide +kernel) hs ha hz
  | tuple => exact s_fnT o c_tuple hg (by decide +kernel) (by decide +kernel) hs ha hz
  | list => exact s_fnT o c_list hg (by decide +kernel) (by decide +kernel) hs ha hz
  | int => exact s_fnT o c_int hg (by decide +kernel) (by decide +kernel) hs ha hz
  | abs => exact s_fnB o c_abs hg (by decide +kernel) (by decide +kernel) hs ha hz
  | all => exact s_fnB o (c_all o.calm) hg (by decide +kernel) (by decide +kernel) hs ha hz
  | any => exact s_fnB o (c_any o.calm) hg (by decide +kernel) (by decide +kernel) hs ha hz
  | sortedSet => exact absurd rfl hf.1
  | lenSet => exact absurd rfl hf.2.1
  | minVals => exact absurd rfl hf.2.2.1
  | tupVals => exact absurd rfl hf.2.2.2
theorem s_minVals (o : OkX cc X lv) {p ap cp : Pos} (hg : glB cc "min" = true) (hc : notCall0 a = true) (hl : (ap.endLine == cp.line) = true) (ha : PE X a (tS X G bg ρ x ρ1)) (hz : evFn .minVals x = some z) : PE X (.Call (.Name "min" p) [.Call (.Attribute a "values" ap) [] [] cp] [] pos) (tS X G bg ρ z ρ1) := by
  cases x <;> simp only [evFn] at hz <;> first | cases hz | skip
  rename_i kvs
  exact (pe_callB (c_minV o.room o.calm) (o.gl hg) (o.blt _ (by decide +kernel)) (by decide +kernel) (pa_cons (s_values hc hl ha) pa_nil rfl) (by decide) (by decide) rfl rfl).mono
    fun σ H Q ⟨R, q⟩ => ⟨R, fun p c es H1 R1 e1 h1 h2 h3 h4 => ⟨p, c, es, kvs, z, rfl, h1, h2, h4, hz, fun w d => q w H1 R1 e1 d⟩⟩

/-! iterators -/
theorem si_seq {tg : Expr} (ha : PE X a (tS X G bg ρ x ρ1)) (hz : walked x = some xs) : PI X tg a (tI X G bg ρ xs ρ1) := by
  cases x <;> simp only [walked] at hz <;> first | cases hz | skip
  · exact (pi_list ha).mono fun σ H R ⟨R0, q⟩ => ⟨R0, fun v H1 R1 e1 d1 => by
      cases d1 with
      | @lst p o vs _ h r => exact ⟨p, rfl, ⟨vs, .inl (.inr ⟨_, h⟩)⟩, q _ _ R1 e1 (runs_list o h r)⟩⟩
  · exact (pi_tup ha).mono fun σ H R ⟨R0, q⟩ => ⟨R0, fun v H1 R1 e1 d1 => by
      obtain ⟨p, vs, rfl, h1, h2⟩ := tup_of d1
      exact ⟨p, rfl, ⟨vs, h1⟩, q _ _ R1 e1 (runs_tup h1 h2)⟩⟩
  · rename_i kvs
    refine ⟨fun pins s σ H R I ⟨R0, q⟩ => ?_⟩
    refine thn (ha.run pins s σ H (fun v H' => Rel X G bg ρ1 σ H' ∧ Ext H H' ∧ Dx X H' v (.dict kvs)) I ⟨R0, fun v H' R' e d => ⟨R', e, d⟩⟩) fun v s1 ⟨xv, H1, I1, r1, R1, e1, d1⟩ => ?_
    cases d1 with
    | @dct p o es _ h k r =>
      cases r1
      obtain ⟨hd, ep, k1, k2, k3⟩ := dx_frz I1 h
      have hit : ∃ ks : List V, Dxs X H1 ks (kvs.map (·.1)) ∧ Vals ks (es.toList.map (·.key)) := by
        have : ∀ (l : List DictEntry) (m : List (D × D)), DnE X.w X.K H1 l m → ∃ vs, Dxs X H1 vs (m.map (·.1)) ∧ Vals vs (l.map (·.key)) := by
          intro l
          induction l with
          | nil => intro m h; cases h; exact ⟨[], .nil, .nil⟩
          | cons e l ih =>
            intro m h
            cases h with
            | cons h1 h2 h3 h4 h5 h6 =>
              obtain ⟨vs, a1, a2⟩ := ih _ h6
              exact ⟨_ :: vs, .cons h3 a1, .cons h2 a2⟩
        exact this _ _ r
      obtain ⟨ks, d2, rv⟩ := hit
      refine wpAny_pyIter_dict_raw (es := es) (ep := ep) hd ⟨o, k1, k2, k3⟩ ?_
      have hl : es.size = (kvs.map (·.1)).length := by rw [List.length_map, ← r.length, Array.length_toList]
      refine ⟨s1.heap.objs.size, [s1.heap.objs.size], _, _, H1, rfl, I1.kept (t' := s1.toks) fun b o e => Heap.get?_push_of_some _ e, turn_dict (Nat.ne_of_lt (Heap.lt_size k1)) k3 rv, ⟨_, Heap.get?_push_size _ rfl, rfl, rfl⟩, fun b hb => ?_, q _ _ R1 e1 (runs_dict h hl d2)⟩
      have e : b = s1.heap.objs.size := by simpa using hb
      subst e
      exact I1.fpOk (Nat.le_refl _) (I1.hok.fresh (Nat.le_refl _))
theorem small_of {i : Int} (h : small i = true) : -(2 ^ 62) < i ∧ i < 2 ^ 62 := of_decide_eq_true h
theorem si_rng (o : OkX cc X lv) {tg : Expr} {p : Pos} {i : Int} (hg : glB cc "range" = true) (hs : notStar a = true) (ha : PE X a (tS X G bg ρ (.int i) ρ1)) (hz : small i = true) : PI X tg (.Call (.Name "range" p) [a] [] pos) (tI X G bg ρ (rangeD 0 i.toNat) ρ1) :=
  (pi_range1 (o.gl hg) (o.blt _ (by decide +kernel)) (pa_cons ha pa_nil (star_of' hs [] X.env)) (star_of' hs [] X.env)).mono fun σ H R ⟨R0, q⟩ => ⟨R0, fun v H1 R1 e1 d1 => ⟨i, by rw [int_of d1], by have := small_of hz; omega, (small_of hz).2, q _ _ R1 e1 (runs_rng 0 _)⟩⟩
theorem si_rng2 (o : OkX cc X lv) {tg : Expr} {p : Pos} {i j : Int} (hg : glB cc "range" = true) (hs : notStar a = true) (hs2 : notStar b = true) (ha : PE X a (tS X G bg ρ (.int i) ρ1)) (hb : PE X b (tS X G bg ρ1 (.int j) ρ2)) (hz : (small i && small j) = true) :
    PI X tg (.Call (.Name "range" p) [a, b] [] pos) (tI X G bg ρ (rangeD i (j - i).toNat) ρ2) := by
  rw [Bool.and_eq_true] at hz
  exact (pi_range2 (o.gl hg) (o.blt _ (by decide +kernel)) (pa_cons ha (pa_cons hb pa_nil (star_of' hs2 [] X.env)) (star_of' hs [b] X.env)) (by rw [star_of' hs [b] X.env, star_of' hs2 [] X.env]; rfl) (star_of' hs2 [] X.env)).mono fun σ H R ⟨R0, q⟩ => ⟨R0, fun v H1 R1 e1 d1 => ⟨R1, fun u H2 R2 e2 d2 =>
    ⟨i, j, by rw [int_of d1, int_of d2], ⟨by have := small_of hz.1; omega, (small_of hz.1).2, by have := small_of hz.2; omega, (small_of hz.2).2⟩, q _ _ R2 (e1.trans e2) (runs_rng _ _)⟩⟩⟩
theorem seqK_of {H : Hp} {v : V} (h : items x = some xs) (d : Dx X H v x) : ∃ k p vs, v = .ref p ∧ (∀ H', Ext H H' → SqK X.K k H' p vs) ∧ Dxs X H vs xs := by
  cases x <;> simp only [items] at h <;> first | cases h | skip
  · cases d with
    | @lst p o vs _ h r => exact ⟨true, p, vs, rfl, fun H' e => .inl (.inr ⟨_, e.frz _ _ _ h⟩), r⟩
  · obtain ⟨p, vs, rfl, h1, h2⟩ := tup_of d
    exact ⟨false, p, vs, rfl, fun H' e => SqT.ext e h1, h2⟩
theorem si_zip (o : OkX cc X lv) {elts : List Expr} {kk : Nat} {tpos p : Pos} (hg : glB cc "zip" = true) (hs : notStar a = true) (hs2 : notStar b = true) (ha : PE X a (tS X G bg ρ x ρ1)) (hb : PE X b (tS X G bg ρ1 y ρ2)) (hx : items x = some xs) (hy : items y = some ys) :
    PI X (.Tuple elts kk tpos) (.Call (.Name "zip" p) [a, b] [] pos) (tI X G bg ρ (pairUp xs ys) ρ2) :=
  (pi_zipK (o.gl hg) (o.blt _ (by decide +kernel)) (pa_cons ha (pa_cons hb pa_nil (star_of' hs2 [] X.env)) (star_of' hs [b] X.env)) (star_of' hs [b] X.env) (by rw [star_of' hs2 [] X.env]; rfl)).mono fun σ H R ⟨R0, q⟩ => ⟨R0, fun v H1 R1 e1 d1 => ⟨R1, fun u H2 R2 e2 d2 => by
    obtain ⟨k1, p1, vs, rfl, h1, h2⟩ := seqK_of hx (d1.ext e2)
    obtain ⟨k2, p2, us, rfl, h3, h4⟩ := seqK_of hy d2
    exact ⟨k1, k2, p1, p2, vs, us, rfl, h1 _ (Ext.refl _), h3 _ (Ext.refl _), q _ _ R2 (e1.trans e2) (runs_zip h1 h3 h2 h4)⟩⟩⟩
theorem si_enum (o : OkX cc X lv) {elts : List Expr} {kk : Nat} {tpos p : Pos} (hg : glB cc "enumerate" = true) (hs : notStar a = true) (ha : PE X a (tS X G bg ρ (.list xs) ρ1)) :
    PI X (.Tuple elts kk tpos) (.Call (.Name "enumerate" p) [a] [] pos) (tI X G bg ρ (numb 0 xs) ρ1) :=
  (pi_enum (o.gl hg) (o.blt _ (by decide +kernel)) (pa_cons ha pa_nil (star_of' hs [] X.env)) (star_of' hs [] X.env)).mono fun σ H R ⟨R0, q⟩ => ⟨R0, fun v H1 R1 e1 d1 => by
    cases d1 with
    | @lst p o vs _ h r => exact ⟨p, vs, rfl, .inl (.inr ⟨_, h⟩), q _ _ R1 e1 (runs_enum o h r)⟩⟩

/-! a new object D that a loop fills: it is told in the heap at the entry -/
theorem Rel.into {σ : L2.St} {H : Hp} {p : Addr} {o : HO} (R : Rel X G bg ρ σ H) (h : H p = none) : Rel X (upd G p o) bg ρ σ (upd H p o) := by
  have hG := R.new h
  have R2 := R.laid (o := o) h
  refine ⟨R2.len, R2.at_, R2.apart, fun i a hi e => ?_, R2.lent, fun b u e hb => ?_, R2.there, fun a ha => ?_⟩
  · have hne : a ≠ p := fun z => not_own_new R h i (by cases q : ρ[i]? with | none => rw [q] at hi; cases hi | some s => rw [q] at hi; cases s <;> first | rfl | cases hi) (by rw [e, z])
    rw [upd_ne hne]; exact R.fresh i a hi e
  · by_cases z : b = p
    · subst z; rw [upd_same] at e ⊢; exact e
    · rw [upd_ne z] at e ⊢; exact R.frame b u e hb
  · have hne : a ≠ p := fun z => by subst z; exact R.bgG a ha hG
    rw [upd_ne hne]; exact R.bgG a ha
theorem Rel.of_in {σ : L2.St} {H : Hp} {p : Addr} {o : HO} (hG : G p = none) (hb : ∀ a, bg = some a → G a ≠ none) (R : Rel X (upd G p o) bg ρ σ H) : Rel X G bg ρ σ H ∧ H p = some o ∧ ∀ i : Nat, isOwn ρ[i]? = true → σ[i]? ≠ some (some (.ref p)) := by
  refine ⟨⟨R.len, R.at_, R.apart, fun i a hi e => ?_, R.lent, fun b u e hb => ?_, R.there, hb⟩, ?_, fun i hi e => ?_⟩
  · have := R.fresh i a hi e
    by_cases z : a = p
    · subst z; rw [upd_same] at this; cases this
    · rw [upd_ne z] at this; exact this
  · have z : b ≠ p := fun z => by subst z; rw [hG] at e; cases e
    exact R.frame b u (by rw [upd_ne z]; exact e) hb
  · exact R.frame p o upd_same fun z => hb p z hG
  · cases q : ρ[i]? with
    | none => rw [q] at hi; cases hi
    | some s =>
      cases s with
      | un => rw [q] at hi; cases hi
      | d x => rw [q] at hi; cases hi
      | ol x => have := R.fresh i p (by rw [q]; rfl) e; rw [upd_same] at this; cases this
      | od x => have := R.fresh i p (by rw [q]; rfl) e; rw [upd_same] at this; cases this
      | bo x => exact hb p (R.lent i p (by rw [q]; rfl) e) hG
theorem Rel.refill {σ : L2.St} {H : Hp} {p : Addr} {o o' : HO} (hG : G p = none) (hb : ∀ a, bg = some a → G a ≠ none) (R : Rel X (upd G p o) bg ρ σ H) (e : Ext H (upd H p o')) : Rel X (upd G p o') bg ρ σ (upd H p o') := by
  obtain ⟨R1, h1, h2⟩ := R.of_in hG hb
  have R2 := R1.other (H' := upd H p o') hG h2 e fun b u z hz => by rw [upd_ne z]; exact hz
  refine ⟨R2.len, R2.at_, R2.apart, fun i a hi ea => ?_, R2.lent, fun b u eb hbb => ?_, R2.there, fun a ha => ?_⟩
  · have hne : a ≠ p := fun z => h2 i (by cases q : ρ[i]? with | none => rw [q] at hi; cases hi | some s => rw [q] at hi; cases s <;> first | rfl | cases hi) (by rw [ea, z])
    rw [upd_ne hne]; exact R2.fresh i a hi ea
  · by_cases z : b = p
    · subst z; rw [upd_same] at eb ⊢; exact eb
    · rw [upd_ne z] at eb; exact R2.frame b u eb hbb
  · have hne : a ≠ p := fun z => by subst z; exact hb a ha hG
    rw [upd_ne hne]; exact hb a ha
/-- slots forgotten, values too -/
theorem Rel.forget2 {σ : L2.St} {H : Hp} (R : Rel X G bg ρ σ H) (i : Nat) : Rel X G bg (ρ.set i .un) (σ.set i none) H := by
  have hl := R.len
  have own : ∀ (f : Option SV → Bool), f (some .un) = false → ∀ k : Nat, f (ρ.set i .un)[k]? = true → f ρ[k]? = true ∧ (σ.set i none)[k]? = σ[k]? := fun f hf k hk => by
    rw [getElem?_set_cases] at hk
    split at hk
    · rw [hf] at hk; cases hk
    · rename_i q
      exact ⟨hk, by rw [getElem?_set_cases, if_neg (by rw [← hl]; exact q)]⟩
  refine ⟨by rw [List.length_set, List.length_set]; exact hl, fun k s e => ?_, fun k l a hk hl' e1 e2 => ?_, fun k a hk e => ?_, fun k a hk e => ?_, R.frame, R.there, R.bgG⟩
  · rw [getElem?_set_cases] at e ⊢
    rw [← hl]
    split at e
    · rename_i q; rw [if_pos q]; cases e; exact True.intro
    · rename_i q; rw [if_neg q]; exact R.at_ k s e
  · obtain ⟨a1, a2⟩ := own isOwn rfl k hk
    obtain ⟨b1, b2⟩ := own isOwn rfl l hl'
    rw [a2] at e1; rw [b2] at e2
    exact R.apart k l a a1 b1 e1 e2
  · obtain ⟨a1, a2⟩ := own isNew rfl k hk
    rw [a2] at e; exact R.fresh k a a1 e
  · obtain ⟨a1, a2⟩ := own isBo rfl k hk
    rw [a2] at e; exact R.lent k a a1 e
theorem Rel.wipe2 {σ : L2.St} {H : Hp} (R : Rel X G bg ρ σ H) : ∀ is : List Nat, Rel X G bg (wipeE ρ is) (L2.wipe σ is) H
  | [] => R
  | i :: is => (R.wipe2 is).forget2 i
theorem backE_len (ρ0 ρ1 : Env) : ∀ vs : List Nat, (backE ρ0 ρ1 vs).length = ρ1.length
  | [] => rfl
  | v :: vs => by
    unfold backE
    split
    · rw [List.length_set, backE_len ρ0 ρ1 vs]
    · exact backE_len ρ0 ρ1 vs
theorem backE_out {ρ0 ρ1 : Env} {i : Nat} : ∀ {vs : List Nat}, i ∉ vs → (backE ρ0 ρ1 vs)[i]? = ρ1[i]?
  | [], _ => rfl
  | v :: vs, h => by
    simp only [List.mem_cons, not_or] at h
    unfold backE
    split
    · rw [List.getElem?_set_ne (fun z => h.1 z.symm)]; exact backE_out h.2
    · exact backE_out h.2
theorem backE_in {ρ0 ρ1 : Env} (hl : ρ0.length = ρ1.length) {i : Nat} : ∀ {vs : List Nat}, i ∈ vs → (backE ρ0 ρ1 vs)[i]? = ρ0[i]?
  | [], h => nomatch h
  | v :: vs, h => by
    by_cases hv : v = i
    · subst hv
      unfold backE
      split
      · rename_i x e
        rw [e]
        exact List.getElem?_set_self (by rw [backE_len, ← hl]; exact (List.getElem?_eq_some_iff.mp e).1)
      · rename_i e
        rw [e, List.getElem?_eq_none]
        rw [backE_len, ← hl]; exact List.getElem?_eq_none_iff.mp e
    · have h' : i ∈ vs := by
        rcases List.mem_cons.mp h with z | z
        · exact absurd z.symm hv
        · exact z
      unfold backE
      split
      · rw [List.getElem?_set_ne hv]; exact backE_in hl h'
      · exact backE_in hl h'
theorem wipe_in {σ : L2.St} {i : Nat} : ∀ {vs : List Nat}, i ∈ vs → i < σ.length → (L2.wipe σ vs)[i]? = some none
  | [], h, _ => nomatch h
  | v :: vs, h, hl => by
    unfold wipe
    by_cases hv : v = i
    · subst hv; exact List.getElem?_set_self (by rw [wipe_length]; exact hl)
    · rw [List.getElem?_set_ne hv]
      rcases List.mem_cons.mp h with z | z
      · exact absurd z.symm hv
      · exact wipe_in z hl
theorem wipe_eq {σ σ' : L2.St} {vs : List Nat} (hl : σ.length = σ'.length) (h : ∀ i, i ∉ vs → σ[i]? = σ'[i]?) : L2.wipe σ vs = L2.wipe σ' vs := by
  apply List.ext_getElem?
  intro i
  by_cases hi : i ∈ vs
  · by_cases hb : i < σ.length
    · rw [wipe_in hi hb, wipe_in hi (by rw [← hl]; exact hb)]
    · rw [List.getElem?_eq_none (by rw [wipe_length]; omega), List.getElem?_eq_none (by rw [wipe_length]; omega)]
  · rw [wipe_out hi, wipe_out hi]; exact h i hi
theorem own_all {own : List (Str × Nat)} {ρ : Env} (h : (own.all fun p => plainSlot ρ[p.2]?) = true) : ∀ i ∈ own.map (·.2), plainSlot ρ[i]? = true := fun i hi => by
  obtain ⟨p, hp, rfl⟩ := List.mem_map.mp hi
  rw [List.all_eq_true] at h
  exact h p hp
theorem plain_own {o : Option SV} (h : plainSlot o = true) : isOwn o = false := by
  cases o with
  | none => rfl
  | some s => cases s with
    | un => rfl
    | d x => rfl
    | ol x => cases h
    | od x => cases h
    | bo x => cases h
theorem own_cases {o : Option SV} (h : isOwn o = true) : isNew o = true ∨ isBo o = true := by
  cases o with
  | none => cases h
  | some s => cases s with
    | un => cases h
    | d x => cases h
    | ol x => exact .inl rfl
    | od x => exact .inl rfl
    | bo x => exact .inr rfl
theorem new_own {o : Option SV} (h : isNew o = true) : isOwn o = true := by
  cases o with
  | none => cases h
  | some s => cases s <;> first | rfl | cases h
theorem bo_own {o : Option SV} (h : isBo o = true) : isOwn o = true := by
  cases o with
  | none => cases h
  | some s => cases s <;> first | rfl | cases h
/-- behind a comprehension -/
theorem Rel.back {σ : L2.St} {H H1 : Hp} {vs : List Nat} (R1 : Rel X G bg ρ1 σ H1) (R5 : Rel X G bg ρ5 (L2.wipe σ vs) H) (e : Ext H1 H) (hp : ∀ i ∈ vs, plainSlot ρ1[i]? = true) : Rel X G bg (backE ρ1 ρ5 vs) σ H := by
  have hl : ρ1.length = ρ5.length := by rw [R1.len, R5.len, wipe_length]
  have own : ∀ i : Nat, isOwn (backE ρ1 ρ5 vs)[i]? = true → i ∉ vs := fun i hi hv => by
    rw [backE_in hl hv, plain_own (hp i hv)] at hi; cases hi
  have get : ∀ i : Nat, i ∉ vs → (backE ρ1 ρ5 vs)[i]? = ρ5[i]? ∧ (L2.wipe σ vs)[i]? = σ[i]? := fun i hi => ⟨backE_out hi, wipe_out hi⟩
  refine ⟨by rw [backE_len, ← hl]; exact R1.len, fun i s es => ?_, fun i j a hi hj e1 e2 => ?_, fun i a hi e1 => ?_, fun i a hi e1 => ?_, R5.frame, R5.there, R5.bgG⟩
  · by_cases hv : i ∈ vs
    · rw [backE_in hl hv] at es
      refine (R1.at_ i s es).mono e fun c hc _ => ?_
      have := plain_own (hp i hv)
      rw [es, hc] at this; cases this
    · rw [(get i hv).1] at es
      have := R5.at_ i s es
      rw [(get i hv).2] at this; exact this
  · have ni := own i hi; have nj := own j hj
    rw [(get i ni).1] at hi; rw [(get j nj).1] at hj
    exact R5.apart i j a hi hj (by rw [(get i ni).2]; exact e1) (by rw [(get j nj).2]; exact e2)
  · have ni := own i (new_own hi)
    rw [(get i ni).1] at hi
    exact R5.fresh i a hi (by rw [(get i ni).2]; exact e1)
  · have ni := own i (bo_own hi)
    rw [(get i ni).1] at hi
    exact R5.lent i a hi (by rw [(get i ni).2]; exact e1)
theorem back_not {σ : L2.St} {H H1 : Hp} {p : Addr} {vs : List Nat} (R1 : Rel X G bg ρ1 σ H1) (R5 : Rel X G bg ρ5 (L2.wipe σ vs) H) (hn : ∀ i : Nat, isOwn ρ5[i]? = true → (L2.wipe σ vs)[i]? ≠ some (some (.ref p))) (hp : ∀ i ∈ vs, plainSlot ρ1[i]? = true) :
    ∀ i : Nat, isOwn (backE ρ1 ρ5 vs)[i]? = true → σ[i]? ≠ some (some (.ref p)) := fun i hi => by
  have hl : ρ1.length = ρ5.length := by rw [R1.len, R5.len, wipe_length]
  have hv : i ∉ vs := fun hv => by rw [backE_in hl hv, plain_own (hp i hv)] at hi; cases hi
  rw [backE_out hv] at hi
  have := hn i hi
  rw [wipe_out hv] at this
  exact this
/-- a comprehension's target stores into its own names alone -/
theorem lookup_mem {x : Str} {k : NameKind} : ∀ {l : List (Str × NameKind)}, l.lookup x = some k → (x, k) ∈ l
  | [], h => by cases h
  | (n, k0) :: r, h => by
    by_cases hx : x = n
    · subst hx; rw [List.lookup_cons_self] at h; cases h; exact List.mem_cons_self
    · have : (x == n) = false := beq_eq_false_iff_ne.mpr hx
      simp only [List.lookup_cons, this] at h
      exact List.mem_cons_of_mem _ (lookup_mem h)
theorem st_own {scope : Scope} {own : List (Str × Nat)} (nd : cc.N.Nodup) (ok : BlkOk cc.N cc.sc scope own) {i : Nat} {n : Str} (h : stB (cc.blk scope) i n = true) : i ∈ own.map (·.2) := by
  unfold stB at h
  simp only [Bool.and_eq_true, decide_eq_true_eq] at h
  obtain ⟨h1, h2⟩ := h
  have hm : n ∈ own.map (·.1) := by
    have hi : n ∈ cc.N := List.mem_of_getElem? h1
    split at h2
    · rename_i q
      rcases ok.own (n, .local) (lookup_mem q) (.inl rfl) with z | z
      · exact z
      · exact absurd hi z
    · rename_i q
      rcases ok.own (n, .cell) (lookup_mem q) (.inr rfl) with z | z
      · exact z
      · exact absurd hi z
    · cases h2
  obtain ⟨p, hp, rfl⟩ := List.mem_map.mp hm
  have h3 := ok.ix p hp
  have hi := (List.getElem?_eq_some_iff.mp h1).1
  have e : i = p.2 := (List.getElem?_inj hi nd).mp (h1.trans h3.symm)
  exact List.mem_map.mpr ⟨p, hp, e.symm⟩
theorem tgs_own {scope : Scope} {own : List (Str × Nat)} (nd : cc.N.Nodup) (ok : BlkOk cc.N cc.sc scope own) : ∀ (is : List Nat) (es : List Expr), okTg.okTgs (cc.blk scope) is es = true → ∀ i ∈ is, i ∈ own.map (·.2)
  | [], _, _ => fun i hi => nomatch hi
  | _ :: _, [], h => by simp [okTg.okTgs] at h
  | i :: is, e :: es, h => by
    cases e with
    | Name x p =>
      simp only [okTg.okTgs, Bool.and_eq_true] at h
      intro j hj
      rcases List.mem_cons.mp hj with rfl | hj
      · exact st_own nd ok h.1
      · exact tgs_own nd ok is es h.2 j hj
    | _ => simp [okTg.okTgs] at h
theorem tg_own {scope : Scope} {own : List (Str × Nat)} (nd : cc.N.Nodup) (ok : BlkOk cc.N cc.sc scope own) {g : Tg} {tg : Expr} (h : okTg (cc.blk scope) g tg = true) : ∀ i ∈ tgSlots g, i ∈ own.map (·.2) := by
  cases g with
  | nm i =>
    cases tg with
    | Name x p => intro j hj; simp only [tgSlots, List.mem_singleton] at hj; subst hj; exact st_own nd ok h
    | _ => simp [okTg] at h
  | tp is =>
    cases tg with
    | Tuple es k p => exact tgs_own nd ok is es h
    | _ => simp [okTg] at h
theorem fold_of {iter : Expr} (h : notSet iter = true) (env : PySem.Env) (x : Value) : foldedSetIterable iter env x = pure x := by
  cases iter <;> first | rfl | (simp [notSet] at h)
end
end WM
set_option Elab.async false
set_option linter.all false
set_option maxRecDepth 100000
set_option maxHeartbeats 4000000
/-! WmR: comprehensions. -/
namespace WM
open PySem PySem.Spec PyProof.Rows L2 PySem.W PySem.SeqAt

section
variable {cc : CC} {X : Cx} {lv : Nat} {G : Hp} {bg : Option Addr} {ρ ρ' ρ1 ρ2 ρ3 ρ5 : Env} {a b c : Expr} {x y z : D} {pos : Pos} {xs ys : List D}
theorem drop_step {xs : List D} {i : Nat} {d : D} (h : xs[i]? = some d) : xs.drop i = d :: xs.drop (i + 1) := by
  obtain ⟨hi, e⟩ := List.getElem?_eq_some_iff.mp h
  rw [List.drop_eq_getElem_cons hi, e]
/-- what a turn of a list comprehension does, as the evaluator says -/
def lcF (e : E) (g : Tg) (ifs : Ts) (vs : List Nat) : D → Env → Option (List D × Env) := fun x ρ => (bindT (wipeE ρ vs) g x).bind fun ρ2 => (denTs ifs ρ2).bind fun (k, ρ3) =>
  if k then (den e ρ3).bind fun (y, ρ4) => some ([y], wipeE ρ4 vs) else some ([], wipeE ρ3 vs)
theorem lcGo_cons {f : D → Env → Option (List D × Env)} {x : D} {zs : List D} (h : lcGo f (x :: xs) ρ = some (zs, ρ')) : ∃ as ρ1 bs, f x ρ = some (as, ρ1) ∧ lcGo f xs ρ1 = some (bs, ρ') ∧ zs = as ++ bs := by
  simp only [lcGo] at h
  obtain ⟨⟨as, ρ1⟩, h1, h⟩ := Option.bind_eq_some_iff.mp h
  obtain ⟨⟨bs, ρ2⟩, h2, h⟩ := Option.bind_eq_some_iff.mp h
  cases h
  exact ⟨as, ρ1, bs, h1, h2, rfl⟩
theorem len_le_of {α : Type} {xs ys zs : List α} (h : xs ++ ys = zs) (hl : zs.length ≤ 1000000) : xs.length ≤ 1000000 := by
  have := congrArg List.length h
  rw [List.length_append] at this; omega
theorem lt_line {n : Nat} (h : n ≤ 1000000) : n < sizeLine := by rw [sizeLine_eq]; omega
/-- a turn of a list comprehension -/
theorem lc_turn {e : E} {g : Tg} {ifs : Ts} {vs ws : List Nat} (hgs : ∀ i ∈ tgSlots g, i ∈ vs) {p : Addr} (hG : G p = none) (hb : ∀ a, bg = some a → G a ≠ none) {σ0 : L2.St} {acc : List V} {ρi ρa : Env} {H H' : Hp} {v : V} {d : D} {as : List D} {Nx : Hp → Prop}
    (R : Rel X (upd G p (.lst acc)) bg ρi (L2.wipe σ0 vs) H) (k : ∀ b o, H b = some o → H' b = some o) (hd : Dx X H' v d) (hF : lcF e g ifs vs d ρi = some (as, ρa)) (hl : acc.length ≤ 1000000)
    (nx : ∀ H5 acc5 as', Rel X (upd G p (.lst acc5)) bg ρa (L2.wipe σ0 vs) H5 → Ext H' H5 → acc5 = acc ++ as' → Dxs X H5 as' as → Nx H5) :
    tgT X.K g v (L2.wipe σ0 vs) H' fun σ2 H2 => L2.wipe σ2 vs = L2.wipe σ0 vs ∧ uTs X ifs σ2 H2 fun b H3 =>
      if b = true then uE X e σ2 H3 fun y H4 => ∃ acc, H4 p = some (.lst acc) ∧ acc.length < sizeLine ∧ Nx (upd H4 p (.lst (acc ++ [y]))) else Nx H3 := by
  unfold lcF at hF
  obtain ⟨ρ2, h1, hF⟩ := Option.bind_eq_some_iff.mp hF
  obtain ⟨⟨kk, ρ3⟩, h2, hF⟩ := Option.bind_eq_some_iff.mp hF
  have Rk : Rel X (upd G p (.lst acc)) bg (wipeE ρi vs) (L2.wipe σ0 vs) H' := (R.keep k).wipe vs
  refine tg_ok Rk hd h1 fun σ2 R2 t => ?_
  have ew : L2.wipe σ2 vs = L2.wipe σ0 vs := wipe_eq (by rw [t.1, wipe_length]) fun i hi => by rw [t.2 i fun z => hi (hgs i z), wipe_out hi]
  refine ⟨ew, upd G p (.lst acc), bg, ρ2, kk, ρ3, h2, R2, fun H3 R3 e3 => ?_⟩
  cases kk with
  | true =>
    obtain ⟨⟨y, ρ4⟩, h3, hF⟩ := Option.bind_eq_some_iff.mp hF
    cases hF
    show uE X e σ2 H3 _
    refine ⟨upd G p (.lst acc), bg, ρ3, y, ρ4, h3, R3, fun w H4 R4 e4 d4 => ?_⟩
    have hp : H4 p = some (.lst acc) := (R4.of_in hG hb).2.1
    refine ⟨acc, hp, lt_line hl, ?_⟩
    have eE := Ext.lst (o := .lst (acc ++ [w])) hp
    have R5 := R4.refill (o' := .lst (acc ++ [w])) hG hb eE
    refine nx _ (acc ++ [w]) [w] ?_ (e3.trans (e4.trans eE)) rfl (.cons (d4.ext eE) .nil)
    rw [← ew]
    exact R5.wipe2 vs
  | false =>
    cases hF
    show Nx H3
    refine nx H3 acc [] ?_ e3 (by simp) .nil
    rw [← ew]
    exact R3.wipe2 vs
theorem lc_ok {e : E} {g : Tg} {it : It} {ifs : Ts} {own : List (Str × Nat)} (hgs : ∀ i ∈ tgSlots g, i ∈ own.map (·.2)) (hden : den (.lc e g it ifs own) ρ = some (.list ys, ρ')) {σ : L2.St} {H : Hp} {Q : VK} (hq : tF X G bg ρ ys ρ' σ H Q) :
    tLc (uI X it) (tgT X.K g) (uTs X ifs) (uE X e) (own.map (·.2)) σ H Q := by
  simp only [den] at hden
  obtain ⟨⟨xs, ρ1⟩, h1, h⟩ := Option.bind_eq_some_iff.mp hden
  split at h
  case isFalse => cases h
  rename_i hp
  have hp := own_all hp
  obtain ⟨⟨zs, ρ5⟩, h2, h⟩ := Option.bind_eq_some_iff.mp h
  split at h
  case isFalse => cases h
  rename_i hl
  cases h
  have hl : zs.length ≤ 1000000 := of_decide_eq_true hl
  obtain ⟨R, q⟩ := hq
  generalize hvs : own.map (·.2) = vs at *
  have h2 : lcGo (lcF e g ifs vs) xs (wipeE ρ1 vs) = some (zs, ρ5) := h2
  refine ⟨G, bg, ρ, xs, ρ1, h1, R, fun J H1 R1 e1 run p hpn => ?_⟩
  have hG := R1.new hpn
  refine ⟨fun i m H' => m = xs.length - i ∧ i ≤ xs.length ∧ ∃ ρi acc done rest, lcGo (lcF e g ifs vs) (xs.drop i) ρi = some (rest, ρ5) ∧ done ++ rest = zs ∧ Rel X (upd G p (.lst acc)) bg ρi (L2.wipe σ vs) H' ∧ Ext H1 H' ∧ Dxs X H' acc done, ?_, ?_⟩
  · exact ⟨_, rfl, Nat.zero_le _, wipeE ρ1 vs, [], [], zs, h2, rfl, (R1.into hpn).wipe2 vs, Ext.new hpn, .nil⟩
  · rintro i m H' ⟨rfl, hi, ρi, acc, done, rest, g1, g2, g3, g4, g5⟩
    by_cases hlt : i < xs.length
    · refine .inr ⟨run.go i H' g4 hlt, fun H5 => i + 1 ≤ xs.length ∧ ∃ ρi acc done rest, lcGo (lcF e g ifs vs) (xs.drop (i + 1)) ρi = some (rest, ρ5) ∧ done ++ rest = zs ∧ Rel X (upd G p (.lst acc)) bg ρi (L2.wipe σ vs) H5 ∧ Ext H1 H5 ∧ Dxs X H5 acc done, ?_, ?_⟩
      · rintro H5 ⟨hi5, w⟩
        exact ⟨xs.length - (i + 1), by omega, rfl, hi5, w⟩
      · intro v H2 hy
        obtain ⟨k, d, hd1, hd2⟩ := run.yld i H' v H2 g4 hy hlt
        rw [drop_step hd1] at g1
        obtain ⟨as, ρa, bs, f1, f2, f3⟩ := lcGo_cons g1
        refine lc_turn (ws := []) hgs hG R1.bgG g3 k hd2 f1 (by rw [g5.length]; exact len_le_of g2 hl) fun H5 acc5 as' r1 r2 r3 r4 => ?_
        have e5 := (Ext.same k).trans r2
        refine ⟨hlt, ρa, acc5, done ++ as, bs, f2, by rw [List.append_assoc, ← f3]; exact g2, r1, g4.trans e5, ?_⟩
        rw [r3]
        exact (g5.ext e5).append r4
    · have ei : i = xs.length := by omega
      subst ei
      rw [List.drop_length] at g1
      cases g1
      rw [List.append_nil] at g2
      subst g2
      obtain ⟨r1, r2, r3⟩ := g3.of_in hG R1.bgG
      exact .inl ⟨run.stop H' g4, q p acc H' (R1.back r1 g4 hp) (e1.trans g4) r2 g5 hG (back_not R1 r1 r3 hp)⟩
theorem s_lc (o : OkX cc X lv) {e : E} {g : Tg} {it : It} {ifs : Ts} {own : List (Str × Nat)} {elt tg iter : Expr} {fs : List Expr} {scope : Scope} (hb : blkC cc.N cc.sc scope own = true) (hn : notSet iter = true) (hg : okTg (cc.blk scope) g tg = true) (hi : PI X tg iter (uI X it))
    (ht : ∀ (s : Shared) (H : Hp) (C : Addr) (cl : List (Str × Addr)) (fp : List Addr), PTs (X.blk s H scope (compEnvC scope cl C X.env) fp) fs (uTs X ifs)) (he : ∀ (s : Shared) (H : Hp) (C : Addr) (cl : List (Str × Addr)) (fp : List Addr), PE (X.blk s H scope (compEnvC scope cl C X.env) fp) elt (uE X e)) :
    PE X (.ListComp elt [⟨tg, iter, fs, 0⟩] scope pos) (uF X (.lc e g it ifs own)) := by
  have ok := blkOk_by hb
  have nd : cc.N.Nodup := o.n ▸ o.nd
  have ok' : BlkOk X.N X.env.scope scope own := by rw [o.n, o.sc]; exact ok
  exact (pe_lc o.calm o.nd hi ok' (fun s H C cl fp => pg_tg o.block hg) ht he (fold_of hn X.env)).mono fun σ H Q ⟨G, bg, ρ, ys, ρ', hd, hq⟩ => lc_ok (tg_own nd ok hg) hd hq
theorem sw_ok (o : OkX cc X lv) {elt : Expr} {gs : List Comprehension} {scope : Scope} {x : Str} {p px : Pos} {l : Nat} (h : swapB cc (.ListComp elt gs scope p) x px.line = true) : X.env.scope.names.lookup x = some .local ∧ swapsWith (.ListComp elt gs scope p) (some (.Name x px)) l X.env = pure true := by
  unfold swapB at h
  simp only [Bool.and_eq_true, decide_eq_true_eq, Bool.not_eq_true'] at h
  obtain ⟨⟨h1, h2⟩, h3, h4⟩ := h
  have hx : X.env.scope.names.lookup x = some .local := by rw [o.sc]; exact h2
  refine ⟨hx, sw_true ?_ hx h3 h4⟩
  rw [o.sc]
  split at h1
  · assumption
  · cases h1
/-- a new list is given to a name -/
theorem give_ok {i : Nat} {σ : L2.St} {H : Hp} {Dn : L2.St → Hp → Prop} {ys : List D} (R : Rel X G bg ρ σ H) (q : ∀ σ' H', Rel X G bg (ρ'.set i (.ol ys)) σ' H' → Ext H H' → Dn σ' H') : tF X G bg ρ ys ρ' σ H (fun x H1 => gName i x σ H1 Dn) :=
  ⟨R, fun a vs H' R' e h1 h2 h3 h4 => q _ H' (R'.give i h3 h4 ⟨a, vs, rfl, h1, h2⟩ rfl) e⟩
theorem giveD_ok {i : Nat} {σ : L2.St} {H : Hp} {Dn : L2.St → Hp → Prop} {ys : List (D × D)} (R : Rel X G bg ρ σ H) (q : ∀ σ' H', Rel X G bg (ρ'.set i (.od ys)) σ' H' → Ext H H' → Dn σ' H') : tFD X G bg ρ ys ρ' σ H (fun x H1 => gName i x σ H1 Dn) :=
  ⟨R, fun a vs H' R' e h1 h2 h5 h3 h4 => q _ H' (R'.give i h3 h4 ⟨a, vs, rfl, h1, h2, h5⟩ rfl) e⟩

/-! two clauses -/
def lc2F (e : E) (g : Tg) (it2 : It) (g2 : Tg) (ifs2 : Ts) (vs vs2 : List Nat) : D → Env → Option (List D × Env) := fun x ρ => (bindT (wipeE ρ vs) g x).bind fun ρ2 => (denIt it2 ρ2).bind fun (xs2, ρ3) =>
  (lcGo (lcF e g2 ifs2 vs2) xs2 (wipeE ρ3 vs2)).bind fun (zs, ρ7) => some (zs, wipeE ρ7 vs)
theorem wipe_wipe {σ : L2.St} {vs ws : List Nat} (h : ∀ i ∈ ws, i ∈ vs) : L2.wipe (L2.wipe σ ws) vs = L2.wipe σ vs := wipe_eq (wipe_length _ _) fun i hi => wipe_out fun z => hi (h i z)
theorem lc2_turn {e : E} {g g2 : Tg} {it2 : It} {ifs2 : Ts} {vs vs2 : List Nat} (hgs : ∀ i ∈ tgSlots g, i ∈ vs) (hg2 : ∀ i ∈ tgSlots g2, i ∈ vs2) (hv : ∀ i ∈ vs2, i ∈ vs) {p : Addr} (hG : G p = none) (hb : ∀ a, bg = some a → G a ≠ none) {σ0 : L2.St} {acc : List V} {ρi ρa : Env} {H H' : Hp} {v : V} {d : D} {as : List D} {Nx : Hp → Prop}
    (R : Rel X (upd G p (.lst acc)) bg ρi (L2.wipe σ0 vs) H) (k : ∀ b o, H b = some o → H' b = some o) (hd : Dx X H' v d) (hF : lc2F e g it2 g2 ifs2 vs vs2 d ρi = some (as, ρa)) (hl : acc.length + as.length ≤ 1000000)
    (nx : ∀ H5 acc5 as', Rel X (upd G p (.lst acc5)) bg ρa (L2.wipe σ0 vs) H5 → Ext H' H5 → acc5 = acc ++ as' → Dxs X H5 as' as → Nx H5) :
    tgT X.K g v (L2.wipe σ0 vs) H' fun σ2 H2 => L2.wipe σ2 vs = L2.wipe σ0 vs ∧ tYes σ2 H2 fun b H3 =>
      if b = true then uI X it2 σ2 H3 fun J1 H4 => ∃ W1 : Nat → Nat → Hp → Prop, (∃ m, W1 0 m H4) ∧ ∀ j k H, W1 j k H →
        (J1.stop j H ∧ Nx H) ∨ (J1.go j H ∧ ∃ Nx1 : Hp → Prop, (∀ H', Nx1 H' → ∃ k', k' < k ∧ W1 (j + 1) k' H') ∧ ∀ x H', J1.yld j H x H' → tgT X.K g2 x (L2.wipe σ2 vs2) H' fun σ3 H5 => L2.wipe σ3 vs2 = L2.wipe σ2 vs2 ∧ uTs X ifs2 σ3 H5 fun b H6 =>
          if b = true then uE X e σ3 H6 fun y H7 => ∃ acc, H7 p = some (.lst acc) ∧ acc.length < sizeLine ∧ Nx1 (upd H7 p (.lst (acc ++ [y]))) else Nx1 H6)
      else Nx H3 := by
  unfold lc2F at hF
  obtain ⟨ρ2, h1, hF⟩ := Option.bind_eq_some_iff.mp hF
  obtain ⟨⟨xs2, ρ3⟩, h2, hF⟩ := Option.bind_eq_some_iff.mp hF
  obtain ⟨⟨zs, ρ7⟩, h3, hF⟩ := Option.bind_eq_some_iff.mp hF
  cases hF
  have Rk : Rel X (upd G p (.lst acc)) bg (wipeE ρi vs) (L2.wipe σ0 vs) H' := (R.keep k).wipe vs
  refine tg_ok Rk hd h1 fun σ2 R2 t => ?_
  have ew : L2.wipe σ2 vs = L2.wipe σ0 vs := wipe_eq (by rw [t.1, wipe_length]) fun i hi => by rw [t.2 i fun z => hi (hgs i z), wipe_out hi]
  refine ⟨ew, ?_⟩
  show uI X it2 σ2 H' _
  refine ⟨upd G p (.lst acc), bg, ρ2, xs2, ρ3, h2, R2, fun J H4 R4 e4 run => ?_⟩
  refine ⟨fun j m H5 => m = xs2.length - j ∧ j ≤ xs2.length ∧ ∃ ρj acc5 done rest as', lcGo (lcF e g2 ifs2 vs2) (xs2.drop j) ρj = some (rest, ρ7) ∧ done ++ rest = as ∧ Rel X (upd G p (.lst acc5)) bg ρj (L2.wipe σ2 vs2) H5 ∧ Ext H4 H5 ∧ acc5 = acc ++ as' ∧ Dxs X H5 as' done, ?_, ?_⟩
  · exact ⟨_, rfl, Nat.zero_le _, wipeE ρ3 vs2, acc, [], as, [], h3, rfl, R4.wipe2 vs2, Ext.refl _, by simp, .nil⟩
  · rintro j m H5 ⟨rfl, hj, ρj, acc5, done, rest, as', g1, g2', g3, g4, g5, g6⟩
    by_cases hlt : j < xs2.length
    · refine .inr ⟨run.go j H5 g4 hlt, fun H6 => j + 1 ≤ xs2.length ∧ ∃ ρj acc5 done rest as', lcGo (lcF e g2 ifs2 vs2) (xs2.drop (j + 1)) ρj = some (rest, ρ7) ∧ done ++ rest = as ∧ Rel X (upd G p (.lst acc5)) bg ρj (L2.wipe σ2 vs2) H6 ∧ Ext H4 H6 ∧ acc5 = acc ++ as' ∧ Dxs X H6 as' done, ?_, ?_⟩
      · rintro H6 ⟨hj6, w⟩
        exact ⟨xs2.length - (j + 1), by omega, rfl, hj6, w⟩
      · intro v2 H6 hy
        obtain ⟨k2, d2, hd1, hd2⟩ := run.yld j H5 v2 H6 g4 hy hlt
        rw [drop_step hd1] at g1
        obtain ⟨bs, ρb, cs, f1, f2, f3⟩ := lcGo_cons g1
        have hlen : acc5.length ≤ 1000000 := by
          rw [g5, List.length_append, g6.length]
          have := congrArg List.length g2'
          rw [List.length_append] at this; omega
        refine lc_turn (ws := []) hg2 hG hb g3 k2 hd2 f1 hlen fun H7 acc7 as7 r1 r2 r3 r4 => ?_
        have e5 := (Ext.same k2).trans r2
        refine ⟨hlt, ρb, acc7, done ++ bs, cs, as' ++ as7, f2, by rw [List.append_assoc, ← f3]; exact g2', r1, g4.trans e5, by rw [r3, g5, List.append_assoc], (g6.ext e5).append r4⟩
    · have ej : j = xs2.length := by omega
      subst ej
      rw [List.drop_length] at g1
      cases g1
      rw [List.append_nil] at g2'
      subst g2'
      refine .inl ⟨run.stop H5 g4, nx H5 acc5 as' ?_ (e4.trans g4) g5 g6⟩
      rw [← ew, ← wipe_wipe (σ := σ2) hv]
      exact g3.wipe2 vs
theorem lc2_ok {e : E} {g g2 : Tg} {it it2 : It} {ifs2 : Ts} {own : List (Str × Nat)} {own2 : List Nat} (hgs : ∀ i ∈ tgSlots g, i ∈ own.map (·.2)) (hg2 : ∀ i ∈ tgSlots g2, i ∈ own2) (hv : ∀ i ∈ own2, i ∈ own.map (·.2)) (hden : den (.lc2 e g it g2 it2 ifs2 own own2) ρ = some (.list ys, ρ')) {σ : L2.St} {H : Hp} {Q : VK} (hq : tF X G bg ρ ys ρ' σ H Q) :
    tLc2 (uI X it) (tgT X.K g) tYes (uI X it2) (tgT X.K g2) (uTs X ifs2) (uE X e) (own.map (·.2)) own2 σ H Q := by
  simp only [den] at hden
  obtain ⟨⟨xs, ρ1⟩, h1, h⟩ := Option.bind_eq_some_iff.mp hden
  split at h
  case isFalse => cases h
  rename_i hp
  have hp := own_all hp
  obtain ⟨⟨zs, ρ5⟩, h2, h⟩ := Option.bind_eq_some_iff.mp h
  split at h
  case isFalse => cases h
  rename_i hl
  cases h
  have hl : zs.length ≤ 1000000 := of_decide_eq_true hl
  obtain ⟨R, q⟩ := hq
  generalize hvs : own.map (·.2) = vs at *
  have h2 : lcGo (lc2F e g it2 g2 ifs2 vs own2) xs (wipeE ρ1 vs) = some (zs, ρ5) := h2
  refine ⟨G, bg, ρ, xs, ρ1, h1, R, fun J H1 R1 e1 run p hpn => ?_⟩
  have hG := R1.new hpn
  refine ⟨fun i m H' => m = xs.length - i ∧ i ≤ xs.length ∧ ∃ ρi acc done rest, lcGo (lc2F e g it2 g2 ifs2 vs own2) (xs.drop i) ρi = some (rest, ρ5) ∧ done ++ rest = zs ∧ Rel X (upd G p (.lst acc)) bg ρi (L2.wipe σ vs) H' ∧ Ext H1 H' ∧ Dxs X H' acc done, ?_, ?_⟩
  · exact ⟨_, rfl, Nat.zero_le _, wipeE ρ1 vs, [], [], zs, h2, rfl, (R1.into hpn).wipe2 vs, Ext.new hpn, .nil⟩
  · rintro i m H' ⟨rfl, hi, ρi, acc, done, rest, g1, g2', g3, g4, g5⟩
    by_cases hlt : i < xs.length
    · refine .inr ⟨run.go i H' g4 hlt, fun H5 => i + 1 ≤ xs.length ∧ ∃ ρi acc done rest, lcGo (lc2F e g it2 g2 ifs2 vs own2) (xs.drop (i + 1)) ρi = some (rest, ρ5) ∧ done ++ rest = zs ∧ Rel X (upd G p (.lst acc)) bg ρi (L2.wipe σ vs) H5 ∧ Ext H1 H5 ∧ Dxs X H5 acc done, ?_, ?_⟩
      · rintro H5 ⟨hi5, w⟩
        exact ⟨xs.length - (i + 1), by omega, rfl, hi5, w⟩
      · intro v H2 hy
        obtain ⟨k, d, hd1, hd2⟩ := run.yld i H' v H2 g4 hy hlt
        rw [drop_step hd1] at g1
        obtain ⟨as, ρa, bs, f1, f2, f3⟩ := lcGo_cons g1
        have hlen : acc.length + as.length ≤ 1000000 := by
          rw [g5.length]
          have := congrArg List.length g2'
          rw [f3, List.length_append, List.length_append] at this; omega
        refine lc2_turn hgs hg2 hv hG R1.bgG g3 k hd2 f1 hlen fun H5 acc5 as' r1 r2 r3 r4 => ?_
        have e5 := (Ext.same k).trans r2
        refine ⟨hlt, ρa, acc5, done ++ as, bs, f2, by rw [List.append_assoc, ← f3]; exact g2', r1, g4.trans e5, ?_⟩
        rw [r3]
        exact (g5.ext e5).append r4
    · have ei : i = xs.length := by omega
      subst ei
      rw [List.drop_length] at g1
      cases g1
      rw [List.append_nil] at g2'
      subst g2'
      obtain ⟨r1, r2, r3⟩ := g3.of_in hG R1.bgG
      exact .inl ⟨run.stop H' g4, q p acc H' (R1.back r1 g4 hp) (e1.trans g4) r2 g5 hG (back_not R1 r1 r3 hp)⟩

/-! dicts -/
def tDcX (wi : TI) (g : TG) (tk tv : TE) (vs : List Nat) : TE := fun σ H Q => wi σ H fun J H1 => ∀ D, H1 D = none → ∃ W : Nat → Nat → Hp → Prop, (∃ m, W 0 m (upd H1 D (DX D #[]))) ∧ ∀ i m H, W i m H →
  (J.stop i H ∧ Q (.ref D) H) ∨ (J.go i H ∧ ∃ Nx : Hp → Prop, (∀ H', Nx H' → ∃ m', m' < m ∧ W (i + 1) m' H') ∧ ∀ x H', J.yld i H x H' → g x (L2.wipe σ vs) H' fun σ2 H2 => L2.wipe σ2 vs = L2.wipe σ vs ∧
    tk σ2 H2 fun yk H3 => tv σ2 H3 fun yv H4 => ∃ es kvs k x, H4 D = some (DX D es) ∧ DnE X.w X.K H4 es.toList kvs ∧ KOk kvs ∧ fitsK kvs k = true ∧ kvs.length ≤ 100000 ∧ Dx X H4 yk k ∧ Dx X H4 yv x ∧
      ∀ es', DnE X.w X.K (upd H4 D (DX D es')) es'.toList (dput kvs k x) → Nx (upd H4 D (DX D es')))
theorem dx_empty {P : Program} {w : World} {H : Hp} (h : Heap) (hb : sysModules < h.objs.size) : ObjOk P w H (h.push { cls := .type "dict", data := .dict #[] }) h.objs.size (DX h.objs.size #[]) :=
  ⟨⟨_, 0, Heap.get?_push_size _ rfl, ⟨rfl, rfl, rfl⟩, rfl, beq_eq_false_iff_ne.mpr (Ne.symm (Nat.ne_of_lt hb))⟩, ⟨_, Heap.get?_push_size _ rfl⟩, fun h1 h2 ⟨o, ep, e, r⟩ hk => ⟨o, ep, hk o e, r⟩⟩
theorem dc_coreX (hr : ∃ lv, Room lv X.A) {pins : List (Addr × Obj)} {s : Shared} {σ : L2.St} {H : Hp} {Q : VK} {kx vx tg iter : Expr} {scope : Scope} {own : List (Str × Nat)} {pos pos' : Pos} {wi : TI} {g : TG} {tk tv : TE} {use : Option (Value → Sem Unit)} {Qf : Value → Shared → Prop}
    (hc : X.calm = true) (hN : X.N.Nodup) (I : Inv X pins σ H s) (hi : PI X tg iter wi) (ok : BlkOk X.N X.env.scope scope own)
    (hg : ∀ (s : Shared) (H : Hp) (C : Addr) (cl : List (Str × Addr)) (fp : List Addr), PG (X.blk s H scope (compEnvC scope cl C X.env) fp) tg g)
    (hk : ∀ (s : Shared) (H : Hp) (C : Addr) (cl : List (Str × Addr)) (fp : List Addr), PE (X.blk s H scope (compEnvC scope cl C X.env) fp) kx tk)
    (he : ∀ (s : Shared) (H : Hp) (C : Addr) (cl : List (Str × Addr)) (fp : List Addr), PE (X.blk s H scope (compEnvC scope cl C X.env) fp) vx tv) (hs : ∀ x, foldedSetIterable iter X.env x = pure x)
    (h : tDcX (X := X) wi g tk tv (own.map (·.2)) σ H Q)
    (hRR : ∀ D C s' m H', Inv X pins σ H' s' → Q (.ref D) H' → s'.heap.Ns C m → FpOk X pins H' C → compPost (model X.prog X.w) X.A X.xe use Qf (.ref D) C (.ok .next) s') :
    wpAny (model X.prog X.w) X.A (comprehension (.DictComp kx vx [⟨tg, iter, [], 0⟩] scope pos) scope X.env pos' newDict false (eval iter X.env) use) Qf X.xe s := by
  obtain ⟨lv, hr⟩ := hr
  have hfree : ∀ y ∈ scope.names, y.2 = .free → ∃ c, X.env.cells.lookup y.1 = some c := fun y hy e => by
    rcases ok.free y hy e with k | k
    · exact I.ok.has _ (.inl k)
    · exact I.ok.has _ (.inr k)
  refine wpAny_comprehension_free (use := use) rfl hs (closure_ok hfree) ok.kind (fun y hy e => by rw [ok.uniq y hy, e])
    (thn (hi.run pins s σ H _ I h) fun xv s1 hx => thn hx fun itv s2 h2 => ?_)
  obtain ⟨it, fp, tn, J, H2, e, I2, T, st2, f2, q⟩ := h2
  subst e
  refine wpAny_newObj_type (newEnv_comp ?_)
  generalize hD : s2.heap.objs.size = D
  have hDn : H2 D = none := I2.hok.fresh (Nat.le_of_eq hD)
  obtain ⟨W, ⟨m0, w0⟩, turn⟩ := q D hDn
  generalize hs3 : ({ s2 with heap := s2.heap.push { cls := .type "dict", data := .dict #[] } } : Shared) = s3
  have I3 : Inv X pins σ (upd H2 D (DX D #[])) s3 := by
    rw [← hs3]
    refine I2.laid (t' := s2.toks) (fun b o e => Heap.get?_push_of_some _ e) (Nat.le_of_eq hD) ?_
    rw [← hD]
    exact dx_empty s2.heap I2.big
  have h3 : s3.heap = s2.heap.push { cls := .type "dict", data := .dict #[] } := by rw [← hs3]
  have sz : ∀ b ∈ fp, b < s2.heap.objs.size := fun b hb => by
    obtain ⟨o, e, _⟩ := T.obj _ _ st2 b hb
    exact Heap.lt_size e
  have f3 : ∀ b ∈ fp, FpOk X pins (upd H2 D (DX D #[])) b ∧ b < s3.heap.objs.size := fun b hb => by
    have hlt := sz b hb
    refine ⟨⟨?_, (f2 b hb).2⟩, by rw [h3, Heap.size_push]; exact Nat.lt_succ_of_lt hlt⟩
    rw [upd_ne (by rw [← hD]; exact Nat.ne_of_lt hlt)]
    exact (f2 b hb).1
  have st3 : tn 0 s3.heap := T.keep _ _ _ st2 fun b _ o e => by rw [h3]; exact Heap.get?_push_of_some _ e
  have I4 := block_start I3 ok hN f3
  have pg := hg s3 (upd H2 D (DX D #[])) s3.heap.objs.size (cellsFrom (s3.heap.objs.size + 1) scope.names (cloFrom X.env.cells scope.names [])) fp
  have pk := hk s3 (upd H2 D (DX D #[])) s3.heap.objs.size (cellsFrom (s3.heap.objs.size + 1) scope.names (cloFrom X.env.cells scope.names [])) fp
  have pe := he s3 (upd H2 D (DX D #[])) s3.heap.objs.size (cellsFrom (s3.heap.objs.size + 1) scope.names (cloFrom X.env.cells scope.names [])) fp
  show codeAny _ _ (.compStart (.DictComp kx vx [⟨tg, iter, [], 0⟩] scope pos) 0 (.ref it) (.ref D) (compEnvC scope (cellsFrom (s3.heap.objs.size + 1) scope.names (cloFrom X.env.cells scope.names [])) s3.heap.objs.size X.env)) (compPost (model X.prog X.w) X.A X.xe use Qf (.ref D) s3.heap.objs.size) { s3 with heap := pushCells (s3.heap.push { cls := .type "dict", data := .dict #[] }) scope.names }
  have nfp : ∀ b ∈ fp, (upd H2 D (DX D #[])) b = none := fun b hb => (f3 b hb).1.1
  generalize hce : compEnvC scope (cellsFrom (s3.heap.objs.size + 1) scope.names (cloFrom X.env.cells scope.names [])) s3.heap.objs.size X.env = ce at I4 pg pk pe ⊢
  have cL : ce.locals = s3.heap.objs.size := by subst hce; rfl
  generalize hH3 : upd H2 D (DX D #[]) = H3 at I3 I4 pg pk pe w0 nfp f3
  generalize hs4 : ({ s3 with heap := pushCells (s3.heap.push { cls := .type "dict", data := .dict #[] }) scope.names } : Shared) = s4 at I4 ⊢
  have st4 : tn 0 s4.heap := T.keep _ _ _ st3 fun b _ o e => by rw [← hs4]; exact pushCells_keeps _ _ _ _ (Heap.get?_push_of_some _ e)
  have stat : ∀ {σ' : L2.St} {H' : Hp} {s' : Shared}, Inv (X.blk s3 H3 scope ce fp) [] σ' H' s' → (∀ b ∈ fp, H' b = none) → ∀ b ∈ fp, FpOk (X.blk s3 H3 scope ce fp) [] H' b := fun {σ' H' s'} I' hn b hb =>
    ⟨hn b hb, (I'.ok.exf b hb).1, I'.ok.exfs b hb, .inl hb, fun x c e => (I'.ok.exf b hb).2 x c e, fun p hp => absurd (show p ∈ ([] : List (Addr × Obj)) ++ [] from hp) (by simp)⟩
  have loop : codeAny (model X.prog X.w) X.A (.compLoop (.DictComp kx vx [⟨tg, iter, [], 0⟩] scope pos) 0 (.ref it) (.ref D) ce) (compPost (model X.prog X.w) X.A X.xe use Qf (.ref D) s3.heap.objs.size) s4 := by
    refine compLoop_anyD (fun n s' => ∃ i H', Inv (X.blk s3 H3 scope ce fp) [] (L2.wipe σ (own.map (·.2))) H' s' ∧ tn i s'.heap ∧ (∀ b ∈ fp, H' b = none) ∧ W i n H') ?_ m0 ⟨0, H3, I4, st4, nfp, w0⟩
    rintro n s5 ⟨i, H5, I5, st5, n5, w5⟩
    rcases turn i n H5 w5 with ⟨stop, qq⟩ | ⟨go, Nx, hNx, step⟩
    · have td := T.done (X.blk s3 H3 scope ce fp) rfl rfl rfl hc i [] s5 _ H5 (fun _ _ => False) I5 (stat I5 n5) st5 stop
      refine thnF td fun r s6 ⟨hr, I6⟩ => ?_
      subst hr
      have I7 : Inv X pins σ H5 s6 := I3.call' (ch := fp) I6.os I6.base I6.hok I6.bare fun b hb => ⟨(f3 b hb).1.2.2.2.1, (f3 b hb).1.2.1, (f3 b hb).1.2.2.2.2.1, (f3 b hb).1.2.2.2.2.2⟩
      have nC : H5 s3.heap.objs.size = none := by
        have z : H5 ce.locals = none := I6.free
        rw [cL] at z
        exact z
      obtain ⟨m, hn, _⟩ := I6.loc
      have hn : s6.heap.Ns ce.locals m := hn
      rw [cL] at hn
      exact hRR D s3.heap.objs.size s6 m H5 I7 qq hn (I3.fpOk (Nat.le_refl _) nC)
    · have ti := T.item (X.blk s3 H3 scope ce fp) rfl rfl rfl hc i [] s5 _ H5 (fun _ _ => False) I5 (stat I5 n5) st5 go
      refine thnF ti fun r s6 ⟨u, hr, h6⟩ => ?_
      subst hr
      refine thnF h6 fun _ s7 ⟨x, H7, I7, r7, y7, st7, n7⟩ => ?_
      have I7' := I7.pinned (stat I7 n7) (T.obj _ _ st7)
      refine thnF (pg.run _ s7 _ H7 x u _ I7' r7 (step x H7 y7)) fun _ s8 ⟨σ8, H8, I8, hw8, q8⟩ => ?_
      refine wpAny_tests_nil ?_
      have fin : ∀ {s' : Shared} {H' : Hp}, Inv (X.blk s3 H3 scope ce fp) ([] ++ pinsAt fp s7.heap) σ8 H' s' → Nx H' → ∃ m, m < n ∧ ∃ i H', Inv (X.blk s3 H3 scope ce fp) [] (L2.wipe σ (own.map (·.2))) H' s' ∧ tn i s'.heap ∧ (∀ b ∈ fp, H' b = none) ∧ W i m H' := fun {s' H'} I' nx => by
        obtain ⟨m', hm, w'⟩ := hNx H' nx
        have pin' : ∀ b ∈ fp, ∀ o, s7.heap.get? b = some o → s'.heap.get? b = some o ∧ H' b = none := fun b hb o e =>
          let z := I'.pin (b, o) (List.mem_append_right _ (List.mem_append_right _ (mem_pinsAt hb e)))
          ⟨z.1, z.2.1⟩
        have hl : (L2.wipe σ (own.map (·.2))).length = σ8.length := by rw [← hw8, wipe_length]
        refine ⟨m', hm, i + 1, H', (I'.unpinned (pins := [])).weak hl (fun j v e => ?_), T.keep _ _ _ st7 fun b hb o e => (pin' b hb o e).1, fun b hb => ?_, w'⟩
        · rw [← hw8] at e
          exact (wipe_some e).1
        · obtain ⟨o, e, _⟩ := T.obj _ _ st7 b hb
          exact (pin' b hb o e).2
      simp only [if_true]
      refine thnF (pk.run _ s8 σ8 H8 _ I8 q8) fun z s10 ⟨yk, H10, I10, r10, q10⟩ => ?_
      refine thnF (pe.run _ s10 σ8 H10 _ I10 q10) fun z2 s11 ⟨yv, H11, I11, r11, es, kvs, k, xd, hD11, hd1, hd2, hd3, hd4, hd5, hd6, nx⟩ => ?_
      have hdk : Dx X H11 yk k := hd5
      exact thnF (dx_put (X := X.blk s3 H3 scope ce fp) I11 hD11 hd1 hd2 hd3 hd4 hdk r10 r11 hd6 lv hr (Q := fun _ s' => ∃ H', Inv (X.blk s3 H3 scope ce fp) ([] ++ pinsAt fp s7.heap) σ8 H' s' ∧ Nx H') fun es' s' I' de => ⟨_, I', nx es' de⟩).2 fun _ s' ⟨H', I', nx'⟩ => fin I' nx'
  exact codeAny_compStart_dict loop (T.self X.A 0 _ _ _ st4 loop)
end
end WM
set_option Elab.async false
set_option linter.all false
set_option maxRecDepth 100000
set_option maxHeartbeats 4000000
/-! WmS: dict comprehensions; statements. -/
namespace WM
open PySem PySem.Spec PyProof.Rows L2 PySem.W PySem.SeqAt

section
variable {cc : CC} {X : Cx} {lv : Nat} {G : Hp} {bg : Option Addr} {ρ ρ' ρ1 ρ2 ρ3 ρ5 : Env} {a b c : Expr} {x y z : D} {pos : Pos} {xs ys : List D}
def dcF (k v : E) (g : Tg) (vs : List Nat) : D → Env → Option ((D × D) × Env) := fun x ρ => (bindT (wipeE ρ vs) g x).bind fun ρ2 => (den k ρ2).bind fun (kd, ρ3) => (den v ρ3).bind fun (vd, ρ4) => some ((kd, vd), wipeE ρ4 vs)
theorem dc_ok {k v : E} {g : Tg} {it : It} {own : List (Str × Nat)} {yd : List (D × D)} (hgs : ∀ i ∈ tgSlots g, i ∈ own.map (·.2)) (hden : den (.dc k v g it own) ρ = some (.dict yd, ρ')) {σ : L2.St} {H : Hp} {Q : VK} (hq : tFD X G bg ρ yd ρ' σ H Q) :
    tDcX (X := X) (uI X it) (tgT X.K g) (uE X k) (uE X v) (own.map (·.2)) σ H Q := by
  simp only [den] at hden
  obtain ⟨⟨xs, ρ1⟩, h1, h⟩ := Option.bind_eq_some_iff.mp hden
  split at h
  case isFalse => cases h
  rename_i hp
  have hp := own_all hp
  obtain ⟨⟨zs, ρ5⟩, h2, h⟩ := Option.bind_eq_some_iff.mp h
  cases h
  obtain ⟨R, q⟩ := hq
  generalize hvs : own.map (·.2) = vs at *
  have h2 : dcGo (dcF k v g vs) xs (wipeE ρ1 vs) [] = some (zs, ρ5) := h2
  refine ⟨G, bg, ρ, xs, ρ1, h1, R, fun J H1 R1 e1 run p hpn => ?_⟩
  have hG := R1.new hpn
  refine ⟨fun i m H' => m = xs.length - i ∧ i ≤ xs.length ∧ ∃ ρi es acc, dcGo (dcF k v g vs) (xs.drop i) ρi acc = some (zs, ρ5) ∧ Rel X (upd G p (DX p es)) bg ρi (L2.wipe σ vs) H' ∧ Ext H1 H' ∧ DnE X.w X.K H' es.toList acc ∧ KOk acc, ?_, ?_⟩
  · exact ⟨_, rfl, Nat.zero_le _, wipeE ρ1 vs, #[], [], h2, (R1.into hpn).wipe2 vs, Ext.new hpn, .nil, KOk.nil⟩
  · rintro i m H' ⟨rfl, hi, ρi, es, acc, g1, g3, g4, g5, g6⟩
    by_cases hlt : i < xs.length
    · refine .inr ⟨run.go i H' g4 hlt, fun H5 => i + 1 ≤ xs.length ∧ ∃ ρi es acc, dcGo (dcF k v g vs) (xs.drop (i + 1)) ρi acc = some (zs, ρ5) ∧ Rel X (upd G p (DX p es)) bg ρi (L2.wipe σ vs) H5 ∧ Ext H1 H5 ∧ DnE X.w X.K H5 es.toList acc ∧ KOk acc, ?_, ?_⟩
      · rintro H5 ⟨hi5, w⟩
        exact ⟨xs.length - (i + 1), by omega, rfl, hi5, w⟩
      · intro w H2 hy
        obtain ⟨kk, d, hd1, hd2⟩ := run.yld i H' w H2 g4 hy hlt
        rw [drop_step hd1] at g1
        simp only [dcGo] at g1
        obtain ⟨⟨⟨kd, vd⟩, ρa⟩, f1, g1⟩ := Option.bind_eq_some_iff.mp g1
        split at g1
        case isFalse => cases g1
        rename_i hf
        rw [Bool.and_eq_true, decide_eq_true_eq] at hf
        unfold dcF at f1
        obtain ⟨ρ2, b1, f1⟩ := Option.bind_eq_some_iff.mp f1
        obtain ⟨⟨kd', ρ3⟩, b2, f1⟩ := Option.bind_eq_some_iff.mp f1
        obtain ⟨⟨vd', ρ4⟩, b3, f1⟩ := Option.bind_eq_some_iff.mp f1
        cases f1
        have Rk : Rel X (upd G p (DX p es)) bg (wipeE ρi vs) (L2.wipe σ vs) H2 := (g3.keep kk).wipe vs
        refine tg_ok Rk hd2 b1 fun σ2 R2 t => ?_
        have ew : L2.wipe σ2 vs = L2.wipe σ vs := wipe_eq (by rw [t.1, wipe_length]) fun i hi => by rw [t.2 i fun z => hi (hgs i z), wipe_out hi]
        refine ⟨ew, upd G p (DX p es), bg, ρ2, kd, ρ3, b2, R2, fun yk H3 R3 e3 d3 => ⟨upd G p (DX p es), bg, ρ3, vd, ρ4, b3, R3, fun yv H4 R4 e4 d4 => ?_⟩⟩
        have hp4 : H4 p = some (DX p es) := (R4.of_in hG R1.bgG).2.1
        refine ⟨es, acc, kd, vd, hp4, ((g5.ext (Ext.same kk)).ext e3).ext e4, g6, hf.1, hf.2, d3.ext e4, d4, fun es' de => ?_⟩
        have eE := Ext.dx (o := DX p es') hp4
        have R5 := R4.refill (o' := DX p es') hG R1.bgG eE
        refine ⟨hlt, _, es', dput acc kd vd, g1, ?_, g4.trans ((Ext.same kk).trans (e3.trans (e4.trans eE))), de, g6.put hf.1 hf.2⟩
        rw [← ew]
        exact R5.wipe2 vs
    · have ei : i = xs.length := by omega
      subst ei
      rw [List.drop_length] at g1
      cases g1
      obtain ⟨r1, r2, r3⟩ := g3.of_in hG R1.bgG
      exact .inl ⟨run.stop H' g4, q p es H' (R1.back r1 g4 hp) (e1.trans g4) r2 g5 g6 hG (back_not R1 r1 r3 hp)⟩
theorem pe_dcX (o : OkX cc X lv) {kx vx tg iter : Expr} {scope : Scope} {own : List (Str × Nat)} {wi : TI} {g : TG} {tk tv : TE} (hi : PI X tg iter wi) (ok : BlkOk X.N X.env.scope scope own)
    (hg : ∀ (s : Shared) (H : Hp) (C : Addr) (cl : List (Str × Addr)) (fp : List Addr), PG (X.blk s H scope (compEnvC scope cl C X.env) fp) tg g)
    (hk : ∀ (s : Shared) (H : Hp) (C : Addr) (cl : List (Str × Addr)) (fp : List Addr), PE (X.blk s H scope (compEnvC scope cl C X.env) fp) kx tk)
    (he : ∀ (s : Shared) (H : Hp) (C : Addr) (cl : List (Str × Addr)) (fp : List Addr), PE (X.blk s H scope (compEnvC scope cl C X.env) fp) vx tv) (hs : ∀ x, foldedSetIterable iter X.env x = pure x) :
    PE X (.DictComp kx vx [⟨tg, iter, [], 0⟩] scope pos) (tDcX (X := X) wi g tk tv (own.map (·.2))) := by
  refine ⟨fun pins s σ H Q I h => ?_⟩
  rw [arm_eval_DictComp]
  refine dc_coreX ⟨lv, o.room⟩ o.calm o.nd I hi ok hg hk he hs h fun D C s' m H' I' q hn f => ⟨m, hn, fun h'' sb => ?_⟩
  obtain ⟨f0, f1, f2, f3, f4, f5⟩ := f
  exact ⟨.ref D, H', I'.turned (t' := s'.toks) (fun b o hb e => (sb.2 b hb).trans e) f0 f1 f3 f4 f5, rfl, q⟩
theorem ps_setDcX (o : OkX cc X lv) {i : Nat} {y : Str} {py : Pos} {kx vx tg iter : Expr} {scope : Scope} {own : List (Str × Nat)} {spos : Pos} {wi : TI} {g : TG} {tk tv : TE} (hy : X.N[i]? = some y) (hyl : X.env.scope.names.lookup y = some .local)
    (hsw : swapsWith (.DictComp kx vx [⟨tg, iter, [], 0⟩] scope pos) (some (.Name y py)) spos.line X.env = pure true) (hi : PI X tg iter wi) (ok : BlkOk X.N X.env.scope scope own)
    (hg : ∀ (s : Shared) (H : Hp) (C : Addr) (cl : List (Str × Addr)) (fp : List Addr), PG (X.blk s H scope (compEnvC scope cl C X.env) fp) tg g)
    (hk : ∀ (s : Shared) (H : Hp) (C : Addr) (cl : List (Str × Addr)) (fp : List Addr), PE (X.blk s H scope (compEnvC scope cl C X.env) fp) kx tk)
    (he : ∀ (s : Shared) (H : Hp) (C : Addr) (cl : List (Str × Addr)) (fp : List Addr), PE (X.blk s H scope (compEnvC scope cl C X.env) fp) vx tv) (hs : ∀ x, foldedSetIterable iter X.env x = pure x) :
    PS X (.Assign [.Name y py] (.DictComp kx vx [⟨tg, iter, [], 0⟩] scope pos) spos) (tAsg (tDcX (X := X) wi g tk tv (own.map (·.2))) (gName i)) := by
  refine ⟨fun pins s σ H D I h => ?_⟩
  rw [exec_Assign_Name_used _ _ _ _ hsw]
  refine wpAny_bind (wpAny_standAt (wpAny_bind ?_))
  show wpAny _ X.A (do let _ ← comprehension (.DictComp kx vx [⟨tg, iter, [], 0⟩] scope pos) scope X.env (firstIterPos [⟨tg, iter, [], 0⟩] pos) newDict false (eval iter X.env) (some (assign (.Name y py) X.env))) _ _ s
  have h : tDcX (X := X) wi g tk tv (own.map (·.2)) σ H (fun x H1 => gName i x σ H1 D.nx) := h
  refine wpAny_bind (thn (dc_coreX (Qf := fun _ s' => SP X pins D .next s') ⟨lv, o.room⟩ o.calm o.nd I hi ok hg hk he hs h fun L C s' m H' I' q hn f => ?_) fun _ s' hq => wpAny_pure (wpAny_pure hq))
  show wpAny _ _ (assign (.Name y py) X.env (.ref L)) _ _ _
  refine wpAny_assign_Name (store_ok2 (v := V.ref L) I' o.nd hy (.inl hyl) rfl (fun s2 I2 ⟨a, sb, ha⟩ => ?_) (.inr hyl))
  obtain ⟨f0, f1, f2, f3, f4, f5⟩ := f
  have haC : C ≠ a := by
    rcases ha with z | z
    · rw [z]; exact f1
    · exact fun e => f4 y a z e.symm
  refine ⟨m, hn.sameBut sb haC, fun h3 sb3 => ?_⟩
  exact ⟨_, H', I2.turned (t' := s2.toks) (fun b o hb e => (sb3.2 b hb).trans e) f0 f1 f3 f4 f5, q⟩
/-- whether a comprehension is stored by itself -/
theorem sw_is (o : OkX cc X lv) (hk : (match cc.sc.kind with | .function => true | _ => false) = true) {v : Expr} {y : Str} {py : Pos} {l : Nat} (hv : notComp v = false → (match v with | .ListComp .. => true | .DictComp .. => true | _ => false) = true) : swapsWith v (some (.Name y py)) l X.env = pure (swapB cc v y py.line) := by
  have hkind : cc.sc.kind = .function := by split at hk; assumption; cases hk
  have hb : X.env.blockKind = .function := by unfold PySem.Env.blockKind; rw [o.sc, hkind]; rfl
  have ky : X.env.kindOf y = cc.sc.names.lookup y := by show X.env.scope.names.lookup y = _; rw [o.sc]
  unfold swapsWith swapB
  cases v with
  | ListComp e gs sc p =>
    simp only [hb, ky, hkind, Expr.pos]
    cases hl : cc.sc.names.lookup y with
    | none => simp
    | some kk => cases kk <;> simp <;> rfl
  | DictComp e e2 gs sc p =>
    simp only [hb, ky, hkind, Expr.pos]
    cases hl : cc.sc.names.lookup y with
    | none => simp
    | some kk => cases kk <;> simp <;> rfl
  | SetComp e gs sc p => exact absurd (hv rfl) (by simp)
  | _ => simp [hkind]
end
end WM
set_option Elab.async false
set_option linter.all false
set_option maxRecDepth 100000
set_option maxHeartbeats 4000000
/-! WmT: the evaluator's word holds for expressions, tests, iterators. -/
namespace WM
open PySem PySem.Spec PyProof.Rows L2 PySem.W PySem.SeqAt

section
variable (X : Cx)
def uA (e : Es) : TA := fun σ H Q => ∃ G bg ρ d ρ', denEs e ρ = some (d, ρ') ∧ tSA X G bg ρ d ρ' σ H Q
end
section
variable {cc : CC} {X : Cx} {lv : Nat} {G : Hp} {bg : Option Addr} {ρ ρ1 ρ2 ρ3 ρ5 : Env} {a b c : Expr} {x y z : D} {pos : Pos} {xs ys : List D}
theorem of_uA {e : Es} {a : List Expr} (h : PA X a (uA X e)) {ρ ρ' : Env} {d : List D} (hd : denEs e ρ = some (d, ρ')) : PA X a (tSA X G bg ρ d ρ') := h.mono fun σ H Q q => ⟨G, bg, ρ, d, ρ', hd, q⟩
theorem to_uA {e : Es} {a : List Expr} (h : ∀ G bg ρ ρ' d, denEs e ρ = some (d, ρ') → PA X a (tSA X G bg ρ d ρ')) : PA X a (uA X e) := ⟨fun pos pins s σ H Q I ⟨G, bg, ρ, d, ρ', hd, q⟩ => (h G bg ρ ρ' d hd).run pos pins s σ H Q I q⟩
theorem of_uW {e : T} {a : Expr} (h : PW X a (uT X e)) {ρ ρ' : Env} {d : Bool} (hd : denT e ρ = some (d, ρ')) : PW X a (tST X G bg ρ d ρ') := h.mono fun σ H Q q => ⟨G, bg, ρ, d, ρ', hd, q⟩
theorem to_uW {e : T} {a : Expr} (h : ∀ G bg ρ ρ' d, denT e ρ = some (d, ρ') → PW X a (tST X G bg ρ d ρ')) : PW X a (uT X e) := ⟨fun wh pins s σ H Q I ⟨G, bg, ρ, d, ρ', hd, q⟩ => (h G bg ρ ρ' d hd).run wh pins s σ H Q I q⟩
theorem _root_.L2.PE.frz {e : E} {a : Expr} (h : PE X a (uF X e)) (hl : ∀ ρ d ρ', den e ρ = some (d, ρ') → ∃ xs, d = .list xs) : PE X a (uE X e) := to_uE fun G bg ρ ρ' d hd => by
  obtain ⟨xs, rfl⟩ := hl ρ d ρ' hd
  exact s_frz (of_uF h hd)
theorem _root_.L2.PE.frzD {e : E} {a : Expr} (h : PE X a (uFD X e)) (hl : ∀ ρ d ρ', den e ρ = some (d, ρ') → ∃ xs, d = .dict xs) : PE X a (uE X e) := to_uE fun G bg ρ ρ' d hd => by
  obtain ⟨xs, rfl⟩ := hl ρ d ρ' hd
  exact s_frzD (of_uFD h hd)
theorem asInt_eq {d : D} {i : Int} (h : asInt d = some i) : d = .int i := by cases d <;> simp [asInt] at h; rw [h]
theorem truth_eq {d : D} {i : Bool} (h : truth d = some i) : d = .bool i := by cases d <;> simp [truth] at h; rw [h]
theorem denEs_len : ∀ (es : Es) (as : List Expr), okEs cc es as = true → ∀ {ρ ρ' : Env} {d : List D}, denEs es ρ = some (d, ρ') → d.length = as.length
  | .nil, [], _, _, _, _, hd => by cases hd; rfl
  | .nil, _ :: _, h, _, _, _, _ => by simp [okEs] at h
  | .cons _ _, [], h, _, _, _, _ => by simp [okEs] at h
  | .cons e es, a :: as, h, ρ, ρ', d, hd => by
    simp only [okEs, Bool.and_eq_true] at h
    simp only [denEs] at hd
    obtain ⟨⟨v, ρ1⟩, h1, hd⟩ := Option.bind_eq_some_iff.mp hd
    obtain ⟨⟨w, ρ2⟩, h2, hd⟩ := Option.bind_eq_some_iff.mp hd
    cases hd
    rw [List.length_cons, List.length_cons, denEs_len es as h.2 h2]
theorem s_inD (o : OkX cc X lv) {i : Nat} {n : Str} {p : Pos} {neg k : Bool} (hn : nmB cc i n = true) (ha : PE X a (tS X G bg ρ x ρ1)) (hi : rdVar ρ1 i = some (y, ρ1)) (hz : evIn x y = some k) :
    PE X (.Compare a [if neg then .NotIn else .In] [.Name n p] pos) (tS X G bg ρ (.bool (if neg then !k else k)) ρ1) ∧ PT X (.Compare a [if neg then .NotIn else .In] [.Name n p] pos) (tST X G bg ρ (if neg then !k else k) ρ1) := by
  cases neg with
  | true => exact ⟨s_cmp o.room .nin ha (s_var o hn hi) rfl (by simp only [evCmp, hz]; rfl), st_cmp o.room .nin ha (s_var o hn hi) rfl (by simp only [evCmp, hz]; rfl)⟩
  | false => exact ⟨s_cmp o.room .inn ha (s_var o hn hi) rfl (by simp only [evCmp, hz]; rfl), st_cmp o.room .inn ha (s_var o hn hi) rfl (by simp only [evCmp, hz]; rfl)⟩
theorem s_binE (op : BOp) (ha : PE X a (tS X G bg ρ x ρ1)) (hb : PE X b (tS X G bg ρ1 y ρ2)) (hz : evBin op x y = some z) : PE X (.BinOp a (opOf op) b pos) (tS X G bg ρ z ρ2) := by
  cases z with
  | list zs => exact s_frz (s_binF op ha hb hz)
  | _ => exact s_bin op ha hb hz fun zs h => nomatch h
theorem pe_one {op : BoolOp} {t : TE} (h : PE X a t) : PE X (.BoolOp op [a] pos) t := by
  refine ⟨fun pins s σ H Q I hw => ?_⟩
  have := h.run pins s σ H Q I hw
  first
    | exact this
    | (rw [eval_BoolOp]; exact this)
    | (unfold eval; exact this)
theorem pw_one {op : BoolOp} {t : TT} (h : PT X a t) : PW X (.BoolOp op [a] pos) t := by
  cases op <;> first | exact pw_and1 h | exact pw_or1 h | exact pw_last h
theorem pt_of_pw {op : BoolOp} {l : List Expr} {t : TT} (h : PW X (.BoolOp op l pos) t) : PT X (.BoolOp op l pos) t := by
  first | exact pt_bool h | exact ⟨fun pins s σ H Q I hw => h.run _ pins s σ H Q I hw⟩
theorem tand_step {a1 b1 : T} {x y : Expr} {r : List Expr} {p : Pos} (h1 : PT X x (uT X a1)) (hb : PW X (.BoolOp .And (y :: r) p) (uT X b1)) : PW X (.BoolOp .And (x :: y :: r) p) (uT X (.and a1 b1)) := by
  refine to_uW fun G bg ρ ρ' d hd => ?_
  simp only [denT] at hd
  obtain ⟨⟨k, ρ1⟩, h3, hd⟩ := Option.bind_eq_some_iff.mp hd
  cases k with
  | true => exact sw_and_t (of_uT h1 h3) (of_uW hb hd)
  | false => cases hd; exact sw_and_f (of_uT h1 h3)
theorem tor_step {a1 b1 : T} {x y : Expr} {r : List Expr} {p : Pos} (h1 : PT X x (uT X a1)) (hb : PW X (.BoolOp .Or (y :: r) p) (uT X b1)) : PW X (.BoolOp .Or (x :: y :: r) p) (uT X (.or a1 b1)) := by
  refine to_uW fun G bg ρ ρ' d hd => ?_
  simp only [denT] at hd
  obtain ⟨⟨k, ρ1⟩, h3, hd⟩ := Option.bind_eq_some_iff.mp hd
  cases k with
  | true => cases hd; exact sw_or_t (of_uT h1 h3)
  | false => exact sw_or_f (of_uT h1 h3) (of_uW hb hd)
theorem tval_of {e : E} {a : Expr} (h : okT cc (.val e) a = true) : ((plainTest a || (match (generalizing := false) a with | .Compare _ _ [_] _ => true | .Compare _ _ [_, _] _ => true | _ => false)) && okE cc e a) = true := by
  cases a <;> exact h
theorem it_seq {e : E} {a : Expr} {b : Bool} (h : okIt cc (.seq e) a b = true) : okE cc e a = true := by
  cases a <;> exact h
theorem it_zipF {e e2 : E} {a : Expr} {b : Bool} (h : okIt cc (.zip e e2) a b = true) (hb : b = false) : false = true := by
  subst hb
  unfold okIt at h
  split at h <;> simp_all
theorem it_enumF {e : E} {a : Expr} {b : Bool} (h : okIt cc (.enum e) a b = true) (hb : b = false) : false = true := by
  subst hb
  unfold okIt at h
  split at h <;> simp_all
theorem lcB_of {e : E} {g : Tg} {it : It} {ifs : Ts} {own : List (Str × Nat)} {el tg iter : Expr} {fs : List Expr} {z : Int} {scope : Scope} {p : Pos} (h : okE cc (.lc e g it ifs own) (.ListComp el [⟨tg, iter, fs, z⟩] scope p) = true) :
    z = 0 ∧ blkC cc.N cc.sc scope own = true ∧ notSet iter = true ∧ okTg (cc.blk scope) g tg = true ∧ okIt cc it iter (isTupE tg) = true ∧ okTs (cc.blk scope) ifs fs = true ∧ okE (cc.blk scope) e el = true := by
  simp only [okE, Bool.and_eq_true, decide_eq_true_eq] at h
  obtain ⟨⟨⟨⟨⟨⟨h1, h2⟩, h3⟩, h4⟩, h5⟩, h6⟩, h7⟩ := h
  exact ⟨h1, h2, h3, h4, h5, h6, h7⟩
theorem lc2B_of {e : E} {g g2 : Tg} {it it2 : It} {ifs2 : Ts} {own : List (Str × Nat)} {own2 : List Nat} {el tg iter tg2 iter2 : Expr} {fs fs2 : List Expr} {z z2 : Int} {scope : Scope} {p : Pos} (h : okE cc (.lc2 e g it g2 it2 ifs2 own own2) (.ListComp el [⟨tg, iter, fs, z⟩, ⟨tg2, iter2, fs2, z2⟩] scope p) = true) :
    z = 0 ∧ z2 = 0 ∧ fs = [] ∧ blkC cc.N cc.sc scope own = true ∧ notSet iter = true ∧ notSet iter2 = true ∧ (∀ i ∈ own2, i ∈ own.map (·.2)) ∧ (∀ i ∈ tgSlots g2, i ∈ own2) ∧ okTg (cc.blk scope) g tg = true ∧ okIt cc it iter (isTupE tg) = true ∧ okTg (cc.blk scope) g2 tg2 = true ∧ okIt (cc.blk scope) it2 iter2 (isTupE tg2) = true ∧ okTs (cc.blk scope) ifs2 fs2 = true ∧ okE (cc.blk scope) e el = true := by
  simp only [okE, Bool.and_eq_true, decide_eq_true_eq, List.all_eq_true, List.isEmpty_iff] at h
  obtain ⟨⟨⟨⟨⟨⟨⟨⟨⟨⟨⟨⟨⟨h1, h2⟩, h3⟩, h4⟩, h5⟩, h6⟩, h7⟩, h7'⟩, h8⟩, h9⟩, h10⟩, h11⟩, h12⟩, h13⟩ := h
  exact ⟨h1, h2, h6, h3, h4, h5, h7, h7', h8, h9, h10, h11, h12, h13⟩
theorem dcB_of {k v : E} {g : Tg} {it : It} {own : List (Str × Nat)} {kx vx tg iter : Expr} {fs : List Expr} {z : Int} {scope : Scope} {p : Pos} (h : okE cc (.dc k v g it own) (.DictComp kx vx [⟨tg, iter, fs, z⟩] scope p) = true) :
    z = 0 ∧ fs = [] ∧ blkC cc.N cc.sc scope own = true ∧ notSet iter = true ∧ okTg (cc.blk scope) g tg = true ∧ okIt cc it iter (isTupE tg) = true ∧ okE (cc.blk scope) k kx = true ∧ okE (cc.blk scope) v vx = true := by
  simp only [okE, Bool.and_eq_true, decide_eq_true_eq, List.isEmpty_iff] at h
  obtain ⟨⟨⟨⟨⟨⟨⟨h1, h2⟩, h3⟩, h4⟩, h5⟩, h6⟩, h7⟩, h8⟩ := h
  exact ⟨h1, h4, h2, h3, h5, h6, h7, h8⟩
theorem lc_isL {e : E} {g : Tg} {it : It} {ifs : Ts} {own : List (Str × Nat)} : ∀ ρ d ρ', den (.lc e g it ifs own) ρ = some (d, ρ') → ∃ xs, d = .list xs := by
  intro ρ d ρ' hd
  simp only [den] at hd
  obtain ⟨⟨v, ρ1⟩, h1, hd⟩ := Option.bind_eq_some_iff.mp hd
  split at hd
  · obtain ⟨⟨v, ρ1⟩, h1, hd⟩ := Option.bind_eq_some_iff.mp hd
    split at hd
    · cases hd; exact ⟨_, rfl⟩
    · cases hd
  · cases hd
theorem lc2_isL {e : E} {g g2 : Tg} {it it2 : It} {ifs2 : Ts} {own : List (Str × Nat)} {own2 : List Nat} : ∀ ρ d ρ', den (.lc2 e g it g2 it2 ifs2 own own2) ρ = some (d, ρ') → ∃ xs, d = .list xs := by
  intro ρ d ρ' hd
  simp only [den] at hd
  obtain ⟨⟨v, ρ1⟩, h1, hd⟩ := Option.bind_eq_some_iff.mp hd
  split at hd
  · obtain ⟨⟨v, ρ1⟩, h1, hd⟩ := Option.bind_eq_some_iff.mp hd
    split at hd
    · cases hd; exact ⟨_, rfl⟩
    · cases hd
  · cases hd
theorem dc_isD {k v : E} {g : Tg} {it : It} {own : List (Str × Nat)} : ∀ ρ d ρ', den (.dc k v g it own) ρ = some (d, ρ') → ∃ xs, d = .dict xs := by
  intro ρ d ρ' hd
  simp only [den] at hd
  obtain ⟨⟨v, ρ1⟩, h1, hd⟩ := Option.bind_eq_some_iff.mp hd
  split at hd
  · obtain ⟨⟨v, ρ1⟩, h1, hd⟩ := Option.bind_eq_some_iff.mp hd
    cases hd; exact ⟨_, rfl⟩
  · cases hd
theorem s_lc2 (o : OkX cc X lv) {e : E} {g g2 : Tg} {it it2 : It} {ifs2 : Ts} {own : List (Str × Nat)} {own2 : List Nat} {elt tg iter tg2 iter2 : Expr} {fs2 : List Expr} {scope : Scope} (hb : blkC cc.N cc.sc scope own = true) (hn : notSet iter = true) (hn2 : notSet iter2 = true) (hv : ∀ i ∈ own2, i ∈ own.map (·.2)) (hg : okTg (cc.blk scope) g tg = true) (hg2 : okTg (cc.blk scope) g2 tg2 = true) (h2s : ∀ i ∈ tgSlots g2, i ∈ own2) (hi : PI X tg iter (uI X it))
    (hi2 : ∀ (s : Shared) (H : Hp) (C : Addr) (cl : List (Str × Addr)) (fp : List Addr), PI (X.blk s H scope (compEnvC scope cl C X.env) fp) tg2 iter2 (uI X it2))
    (ht : ∀ (s : Shared) (H : Hp) (C : Addr) (cl : List (Str × Addr)) (fp : List Addr), PTs (X.blk s H scope (compEnvC scope cl C X.env) fp) fs2 (uTs X ifs2)) (he : ∀ (s : Shared) (H : Hp) (C : Addr) (cl : List (Str × Addr)) (fp : List Addr), PE (X.blk s H scope (compEnvC scope cl C X.env) fp) elt (uE X e)) :
    PE X (.ListComp elt [⟨tg, iter, [], 0⟩, ⟨tg2, iter2, fs2, 0⟩] scope pos) (uF X (.lc2 e g it g2 it2 ifs2 own own2)) := by
  have ok := blkOk_by hb
  have nd : cc.N.Nodup := o.n ▸ o.nd
  have ok' : BlkOk X.N X.env.scope scope own := by rw [o.n, o.sc]; exact ok
  exact (pe_lc2 o.calm o.nd hi ok' hv (fun s H C cl fp => pg_tg o.block hg) (fun s H C cl fp => pts_nil) hi2 (fun s H C cl fp => pg_tg o.block hg2) ht he (fold_of hn X.env) (fun env x => fold_of hn2 env x)).mono fun σ H Q ⟨G, bg, ρ, ys, ρ', hd, hq⟩ => lc2_ok (tg_own nd ok hg) h2s hv hd hq
theorem s_dc (o : OkX cc X lv) {k v : E} {g : Tg} {it : It} {own : List (Str × Nat)} {kx vx tg iter : Expr} {scope : Scope} (hb : blkC cc.N cc.sc scope own = true) (hn : notSet iter = true) (hg : okTg (cc.blk scope) g tg = true) (hi : PI X tg iter (uI X it))
    (hk : ∀ (s : Shared) (H : Hp) (C : Addr) (cl : List (Str × Addr)) (fp : List Addr), PE (X.blk s H scope (compEnvC scope cl C X.env) fp) kx (uE X k)) (he : ∀ (s : Shared) (H : Hp) (C : Addr) (cl : List (Str × Addr)) (fp : List Addr), PE (X.blk s H scope (compEnvC scope cl C X.env) fp) vx (uE X v)) :
    PE X (.DictComp kx vx [⟨tg, iter, [], 0⟩] scope pos) (uFD X (.dc k v g it own)) := by
  have ok := blkOk_by hb
  have nd : cc.N.Nodup := o.n ▸ o.nd
  have ok' : BlkOk X.N X.env.scope scope own := by rw [o.n, o.sc]; exact ok
  exact (pe_dcX o hi ok' (fun s H C cl fp => pg_tg o.block hg) hk he (fold_of hn X.env)).mono fun σ H Q ⟨G, bg, ρ, ys, ρ', hd, hq⟩ => dc_ok (tg_own nd ok hg) hd hq
theorem rel_blk {s : Shared} {H : Hp} {scope : Scope} {e : PySem.Env} {fp : List Addr} : Rel (X.blk s H scope e fp) = Rel X := by
  funext G bg ρ σ H'
  exact propext ⟨fun R => ⟨R.len, R.at_, R.apart, R.fresh, R.lent, R.frame, R.there, R.bgG⟩, fun R => ⟨R.len, R.at_, R.apart, R.fresh, R.lent, R.frame, R.there, R.bgG⟩⟩
theorem runs_blk {s : Shared} {H : Hp} {scope : Scope} {e : PySem.Env} {fp : List Addr} : Runs (X.blk s H scope e fp) = Runs X := by
  funext J H0 xs
  exact propext ⟨fun R => ⟨R.go, R.stop, R.yld⟩, fun R => ⟨R.go, R.stop, R.yld⟩⟩
theorem uE_blk {s : Shared} {H : Hp} {scope : Scope} {e : PySem.Env} {fp : List Addr} (t : E) : uE (X.blk s H scope e fp) t = uE X t := by
  unfold uE tS; rw [rel_blk]
theorem uTs_blk {s : Shared} {H : Hp} {scope : Scope} {e : PySem.Env} {fp : List Addr} (t : Ts) : uTs (X.blk s H scope e fp) t = uTs X t := by
  unfold uTs tST; rw [rel_blk]
theorem uI_blk {s : Shared} {H : Hp} {scope : Scope} {e : PySem.Env} {fp : List Addr} (t : It) : uI (X.blk s H scope e fp) t = uI X t := by
  unfold uI tI; rw [rel_blk, runs_blk]
end
mutual
theorem sE {cc : CC} {X : Cx} {lv : Nat} : ∀ (e : E) (a : Expr), OkX cc X lv → okE cc e a = true → wfE (HasP X lv) (HasB X lv) (HasG X) e → PE X a (uE X e)
  | .var i, a, o, hok, wf => by
    cases a with
    | Name x p =>
      exact to_uE fun G bg ρ ρ' d hd => s_var o hok hd
    | _ => exact absurd hok Bool.false_ne_true
  | .glo x v, a, o, hok, wf => by
    cases a with
    | Name y p =>
      have hok : (decide (x = y) && glB cc y) = true := hok
      rw [Bool.and_eq_true, decide_eq_true_eq] at hok
      obtain ⟨rfl, hg⟩ := hok
      exact to_uE fun G bg ρ ρ' d hd => by cases hd; exact s_glo o hg wf
    | _ => exact absurd hok Bool.false_ne_true
  | .int i, a, o, hok, wf => by
    cases a with
    | Constant c k p =>
      cases c with
      | int j =>
        have hok : decide (i = j) = true := hok
        rw [decide_eq_true_eq] at hok
        subst hok
        exact to_uE fun G bg ρ ρ' d hd => by cases hd; exact s_const pe_int fun H => .int _
      | _ => exact absurd hok Bool.false_ne_true
    | _ => exact absurd hok Bool.false_ne_true
  | .str i, a, o, hok, wf => by
    cases a with
    | Constant c k p =>
      cases c with
      | str j =>
        have hok : decide (i = j) = true := hok
        rw [decide_eq_true_eq] at hok
        subst hok
        exact to_uE fun G bg ρ ρ' d hd => by cases hd; exact s_const pe_str fun H => .str _
      | _ => exact absurd hok Bool.false_ne_true
    | _ => exact absurd hok Bool.false_ne_true
  | .bl i, a, o, hok, wf => by
    cases a with
    | Constant c k p =>
      cases c with
      | bool j =>
        have hok : (i == j) = true := hok
        have hok := eq_of_beq hok
        subst hok
        exact to_uE fun G bg ρ ρ' d hd => by cases hd; exact s_const pe_bl fun H => .bl _
      | _ => exact absurd hok Bool.false_ne_true
    | _ => exact absurd hok Bool.false_ne_true
  | .non, a, o, hok, wf => by
    cases a with
    | Constant c k p =>
      cases c with
      | none  =>
        exact to_uE fun G bg ρ ρ' d hd => by cases hd; exact s_const pe_non fun H => .non
      | _ => exact absurd hok Bool.false_ne_true
    | _ => exact absurd hok Bool.false_ne_true
  | .tup es, a, o, hok, wf => by
    cases a with
    | Tuple as k p =>
      simp only [okE, Bool.and_eq_true, decide_eq_true_eq] at hok
      obtain ⟨hl, he⟩ := hok
      refine to_uE fun G bg ρ ρ' d hd => ?_
      simp only [den] at hd
      obtain ⟨⟨xs, ρ1⟩, h1, hd⟩ := Option.bind_eq_some_iff.mp hd
      cases hd
      exact s_tup (of_uA (sEs es as o he wf) h1) (by rw [denEs_len es as he h1]; omega)
    | _ => exact absurd hok Bool.false_ne_true
  | .lst es, a, o, hok, wf => by
    cases a with
    | List as p =>
      simp only [okE, Bool.and_eq_true, decide_eq_true_eq] at hok
      obtain ⟨hl, he⟩ := hok
      refine to_uE fun G bg ρ ρ' d hd => ?_
      simp only [den] at hd
      obtain ⟨⟨xs, ρ1⟩, h1, hd⟩ := Option.bind_eq_some_iff.mp hd
      cases hd
      exact s_frz (s_lst (of_uA (sEs es as o he wf) h1) (by rw [denEs_len es as he h1]; omega))
    | _ => exact absurd hok Bool.false_ne_true
  | .bin op a1 b1, a, o, hok, wf => by
    cases a with
    | BinOp x f y p =>
      simp only [okE, Bool.and_eq_true, decide_eq_true_eq] at hok
      obtain ⟨⟨rfl, h1⟩, h2⟩ := hok
      refine to_uE fun G bg ρ ρ' d hd => ?_
      simp only [den] at hd
      obtain ⟨⟨v, ρ1⟩, h3, hd⟩ := Option.bind_eq_some_iff.mp hd
      obtain ⟨⟨w, ρ2⟩, h4, hd⟩ := Option.bind_eq_some_iff.mp hd
      obtain ⟨z, h5, hd⟩ := Option.bind_eq_some_iff.mp hd
      cases hd
      exact s_binE op (of_uE (sE a1 x o h1 wf.1) h3) (of_uE (sE b1 y o h2 wf.2) h4) h5
    | _ => exact absurd hok Bool.false_ne_true
  | .neg a1, a, o, hok, wf => by
    cases a with
    | UnaryOp f x p =>
      cases f with
      | USub  =>
        have hok : okE cc a1 x = true := hok
        refine to_uE fun G bg ρ ρ' d hd => ?_
        simp only [den] at hd
        obtain ⟨⟨v, ρ1⟩, h3, hd⟩ := Option.bind_eq_some_iff.mp hd
        obtain ⟨z, h5, hd⟩ := Option.bind_eq_some_iff.mp hd
        cases hd
        have e5 : v = _ := asInt_eq h5
        rw [e5] at h3
        exact s_neg (of_uE (sE a1 x o hok wf) h3)
      | _ => exact absurd hok Bool.false_ne_true
    | _ => exact absurd hok Bool.false_ne_true
  | .cmp op a1 b1, a, o, hok, wf => by
    cases a with
    | Compare x ops ys p =>
      cases ops with
      | cons f fs =>
        cases fs with
        | nil  =>
          cases ys with
          | cons y ys =>
            cases ys with
            | nil  =>
              simp only [okE, Bool.and_eq_true, decide_eq_true_eq] at hok
              obtain ⟨⟨⟨rfl, h0⟩, h1⟩, h2⟩ := hok
              refine to_uE fun G bg ρ ρ' d hd => ?_
              simp only [den] at hd
              obtain ⟨⟨v, ρ1⟩, h3, hd⟩ := Option.bind_eq_some_iff.mp hd
              obtain ⟨⟨w, ρ2⟩, h4, hd⟩ := Option.bind_eq_some_iff.mp hd
              obtain ⟨z, h5, hd⟩ := Option.bind_eq_some_iff.mp hd
              cases hd
              exact s_cmp o.room op (of_uE (sE a1 x o h1 wf.1) h3) (of_uE (sE b1 y o h2 wf.2) h4) h0 h5
            | _ => exact absurd hok Bool.false_ne_true
          | _ => exact absurd hok Bool.false_ne_true
        | _ => exact absurd hok Bool.false_ne_true
      | _ => exact absurd hok Bool.false_ne_true
    | _ => exact absurd hok Bool.false_ne_true
  | .chn o1 o2 a1 b1 c1, a, o, hok, wf => by
    cases a with
    | Compare x ops ys p =>
      cases ops with
      | cons f fs =>
        cases fs with
        | cons f2 fs =>
          cases fs with
          | nil  =>
            cases ys with
            | cons y ys =>
              cases ys with
              | cons y2 ys =>
                cases ys with
                | nil  =>
                  simp only [okE, Bool.and_eq_true, decide_eq_true_eq] at hok
                  obtain ⟨⟨⟨⟨⟨⟨rfl, rfl⟩, g1⟩, g2⟩, h1⟩, h2⟩, h6⟩ := hok
                  refine to_uE fun G bg ρ ρ' d hd => ?_
                  simp only [den] at hd
                  obtain ⟨⟨v, ρ1⟩, h3, hd⟩ := Option.bind_eq_some_iff.mp hd
                  obtain ⟨⟨w, ρ2⟩, h4, hd⟩ := Option.bind_eq_some_iff.mp hd
                  obtain ⟨k, h5, hd⟩ := Option.bind_eq_some_iff.mp hd
                  split at hd
                  · rename_i hk
                    obtain ⟨⟨u, ρ3⟩, h7, hd⟩ := Option.bind_eq_some_iff.mp hd
                    obtain ⟨k2, h8, hd⟩ := Option.bind_eq_some_iff.mp hd
                    cases hd
                    rw [hk] at h5
                    exact (s_chain_t o.room o1 o2 (of_uE (sE a1 x o h1 wf.1) h3) (of_uE (sE b1 y o h2 wf.2.1) h4) (of_uE (sE c1 y2 o h6 wf.2.2) h7) g2 h5 h8).1
                  · rename_i hk
                    cases hd
                    have hk : k = false := by simpa using hk
                    rw [hk] at h5
                    exact (s_chain_f o.room o1 o2 (of_uE (sE a1 x o h1 wf.1) h3) (of_uE (sE b1 y o h2 wf.2.1) h4) g2 h5).1
                | _ => exact absurd hok Bool.false_ne_true
              | _ => exact absurd hok Bool.false_ne_true
            | _ => exact absurd hok Bool.false_ne_true
          | _ => exact absurd hok Bool.false_ne_true
        | _ => exact absurd hok Bool.false_ne_true
      | _ => exact absurd hok Bool.false_ne_true
    | _ => exact absurd hok Bool.false_ne_true
  | .and a1 b1, a, o, hok, wf => by
    cases a with
    | BoolOp f xs p =>
      cases f with
      | And  =>
        cases xs with
        | cons x xs =>
          cases xs with
          | cons y r =>
            have hok : (okE cc a1 x && (match (generalizing := false) r with | [] => okE cc b1 y | _ :: _ => okAnd cc b1 (y :: r))) = true := hok
            rw [Bool.and_eq_true] at hok
            obtain ⟨h1, h2⟩ := hok
            have hb : PE X (.BoolOp .And (y :: r) p) (uE X b1) := by
              cases r with
              | nil => exact pe_one (sE b1 y o h2 wf.2)
              | cons z r => exact sAndL b1 (y :: z :: r) o h2 wf.2
            refine to_uE fun G bg ρ ρ' d hd => ?_
            simp only [den] at hd
            obtain ⟨⟨v, ρ1⟩, h3, hd⟩ := Option.bind_eq_some_iff.mp hd
            obtain ⟨k, h5, hd⟩ := Option.bind_eq_some_iff.mp hd
            have e5 : v = _ := truth_eq h5
            rw [e5] at h3
            split at hd
            · rename_i hk
              rw [hk] at h3
              exact s_and_t (of_uE (sE a1 x o h1 wf.1) h3) (of_uE hb hd)
            · rename_i hk
              have hk : k = false := by simpa using hk
              rw [hk] at h3
              cases hd
              exact s_and_f (of_uE (sE a1 x o h1 wf.1) h3)
          | _ => exact absurd hok Bool.false_ne_true
        | _ => exact absurd hok Bool.false_ne_true
      | _ => exact absurd hok Bool.false_ne_true
    | _ => exact absurd hok Bool.false_ne_true
  | .or a1 b1, a, o, hok, wf => by
    cases a with
    | BoolOp f xs p =>
      cases f with
      | Or  =>
        cases xs with
        | cons x xs =>
          cases xs with
          | cons y r =>
            have hok : (okE cc a1 x && (match (generalizing := false) r with | [] => okE cc b1 y | _ :: _ => okOr cc b1 (y :: r))) = true := hok
            rw [Bool.and_eq_true] at hok
            obtain ⟨h1, h2⟩ := hok
            have hb : PE X (.BoolOp .Or (y :: r) p) (uE X b1) := by
              cases r with
              | nil => exact pe_one (sE b1 y o h2 wf.2)
              | cons z r => exact sOrL b1 (y :: z :: r) o h2 wf.2
            refine to_uE fun G bg ρ ρ' d hd => ?_
            simp only [den] at hd
            obtain ⟨⟨v, ρ1⟩, h3, hd⟩ := Option.bind_eq_some_iff.mp hd
            obtain ⟨k, h5, hd⟩ := Option.bind_eq_some_iff.mp hd
            have e5 : v = _ := truth_eq h5
            rw [e5] at h3
            split at hd
            · rename_i hk
              rw [hk] at h3
              cases hd
              exact s_or_t (of_uE (sE a1 x o h1 wf.1) h3)
            · rename_i hk
              have hk : k = false := by simpa using hk
              rw [hk] at h3
              exact s_or_f (of_uE (sE a1 x o h1 wf.1) h3) (of_uE hb hd)
          | _ => exact absurd hok Bool.false_ne_true
        | _ => exact absurd hok Bool.false_ne_true
      | _ => exact absurd hok Bool.false_ne_true
    | _ => exact absurd hok Bool.false_ne_true
  | .nt a1, a, o, hok, wf => by
    cases a with
    | UnaryOp f x p =>
      cases f with
      | Not  =>
        have hok : okE cc a1 x = true := hok
        refine to_uE fun G bg ρ ρ' d hd => ?_
        simp only [den] at hd
        obtain ⟨⟨v, ρ1⟩, h3, hd⟩ := Option.bind_eq_some_iff.mp hd
        obtain ⟨z, h5, hd⟩ := Option.bind_eq_some_iff.mp hd
        cases hd
        have e5 : v = _ := truth_eq h5
        rw [e5] at h3
        exact s_not (of_uE (sE a1 x o hok wf) h3)
      | _ => exact absurd hok Bool.false_ne_true
    | _ => exact absurd hok Bool.false_ne_true
  | .ite t a1 b1, a, o, hok, wf => by
    cases a with
    | IfExp c x y p =>
      simp only [okE, Bool.and_eq_true, decide_eq_true_eq] at hok
      obtain ⟨⟨h0, h1⟩, h2⟩ := hok
      refine to_uE fun G bg ρ ρ' d hd => ?_
      simp only [den] at hd
      obtain ⟨⟨k, ρ1⟩, h3, hd⟩ := Option.bind_eq_some_iff.mp hd
      exact s_ite (of_uT (sT t c o h0 wf.1) h3) (fun hk => by rw [hk] at hd; exact of_uE (sE a1 x o h1 wf.2.1) hd) (fun hk => by rw [hk] at hd; exact of_uE (sE b1 y o h2 wf.2.2) hd)
    | _ => exact absurd hok Bool.false_ne_true
  | .call f F es, a, o, hok, wf => by
    cases a with
    | Call fn args kws p =>
      cases fn with
      | Name g q =>
        cases args with
        | cons x xs =>
          cases kws with
          | nil  =>
            simp only [okE, Bool.and_eq_true, decide_eq_true_eq] at hok
            obtain ⟨⟨rfl, hg⟩, he⟩ := hok
            refine to_uE fun G bg ρ ρ' d hd => ?_
            simp only [den] at hd
            obtain ⟨⟨v, ρ1⟩, h3, hd⟩ := Option.bind_eq_some_iff.mp hd
            obtain ⟨z, h5, hd⟩ := Option.bind_eq_some_iff.mp hd
            cases hd
            exact s_call o wf.1 hg he (of_uA (sEs es (x :: xs) o he wf.2) h3) h5
          | _ => exact absurd hok Bool.false_ne_true
        | _ => exact absurd hok Bool.false_ne_true
      | _ => exact absurd hok Bool.false_ne_true
    | _ => exact absurd hok Bool.false_ne_true
  | .callB f F i es, a, o, hok, wf => by
    cases a with
    | Call fn args kws p =>
      cases fn with
      | Name g q =>
        cases args with
        | cons x0 xs0 =>
          cases x0 with
          | Name nm q2 =>
            cases xs0 with
            | cons x xs =>
              cases kws with
              | nil  =>
                simp only [okE, Bool.and_eq_true, decide_eq_true_eq] at hok
                obtain ⟨⟨⟨rfl, hg⟩, hn⟩, he⟩ := hok
                refine to_uE fun G bg ρ ρ' d hd => ?_
                simp only [den] at hd
                split at hd
                · rename_i hi
                  obtain ⟨⟨v, ρ1⟩, h3, hd⟩ := Option.bind_eq_some_iff.mp hd
                  split at hd
                  · rename_i xs1 e
                    obtain ⟨⟨z, xs2⟩, h5, hd⟩ := Option.bind_eq_some_iff.mp hd
                    cases hd
                    exact s_callB o wf.1 hg hn he hi (of_uA (sEs es (x :: xs) o he wf.2) h3) e h5
                  · cases hd
                · cases hd
              | _ => exact absurd hok Bool.false_ne_true
            | _ => exact absurd hok Bool.false_ne_true
          | _ => exact absurd hok Bool.false_ne_true
        | _ => exact absurd hok Bool.false_ne_true
      | _ => exact absurd hok Bool.false_ne_true
    | _ => exact absurd hok Bool.false_ne_true
  | .fn f a1, a, o, hok, wf => by
    cases a with
    | Call fn args kws p =>
      cases fn with
      | Name g q =>
        cases args with
        | cons x xs =>
          cases xs with
          | nil  =>
            cases kws with
            | nil  =>
              have hok : (decide (g = fnName f) && glB cc g && (match (generalizing := false) f with
                | .sortedSet => false
                | .lenSet => false
                | .minVals => (match (generalizing := false) x with | .Call (.Attribute y m ap) [] [] cp => decide (m = "values") && ap.endLine == cp.line && notCall0 y && okE cc a1 y | _ => false)
                | .tupVals => false
                | _ => notStar x && okE cc a1 x)) = true := hok
              simp only [Bool.and_eq_true, decide_eq_true_eq] at hok
              obtain ⟨⟨rfl, hg⟩, h2⟩ := hok
              refine to_uE fun G bg ρ ρ' d hd => ?_
              simp only [den] at hd
              obtain ⟨⟨v, ρ1⟩, h3, hd⟩ := Option.bind_eq_some_iff.mp hd
              obtain ⟨z, h5, hd⟩ := Option.bind_eq_some_iff.mp hd
              cases hd
              cases f with
              | sortedSet => exact absurd h2 Bool.false_ne_true
              | lenSet => exact absurd h2 Bool.false_ne_true
              | tupVals => exact absurd h2 Bool.false_ne_true
              | minVals =>
                simp only at h2
                split at h2
                · simp only [Bool.and_eq_true, decide_eq_true_eq] at h2
                  obtain ⟨⟨⟨rfl, k1⟩, k2⟩, k3⟩ := h2
                  exact s_minVals o hg k2 k1 (of_uE (sE a1 _ o k3 wf) h3) h5
                · cases h2
              | _ =>
                simp only [Bool.and_eq_true] at h2
                exact s_fn o _ (by decide) hg h2.1 (of_uE (sE a1 x o h2.2 wf) h3) h5
            | _ => exact absurd hok Bool.false_ne_true
          | _ => exact absurd hok Bool.false_ne_true
        | _ => exact absurd hok Bool.false_ne_true
      | _ => exact absurd hok Bool.false_ne_true
    | _ => exact absurd hok Bool.false_ne_true
  | .fn2 f a1 b1, a, o, hok, wf => by
    cases a with
    | Call fn args kws p =>
      cases fn with
      | Name g q =>
        cases args with
        | cons x xs =>
          cases xs with
          | cons y ys =>
            cases ys with
            | nil  =>
              cases kws with
              | nil  =>
                simp only [okE, Bool.and_eq_true, decide_eq_true_eq] at hok
                obtain ⟨⟨⟨⟨⟨rfl, hg⟩, g1⟩, g2⟩, h1⟩, h2⟩ := hok
                refine to_uE fun G bg ρ ρ' d hd => ?_
                simp only [den] at hd
                obtain ⟨⟨v, ρ1⟩, h3, hd⟩ := Option.bind_eq_some_iff.mp hd
                obtain ⟨⟨w, ρ2⟩, h4, hd⟩ := Option.bind_eq_some_iff.mp hd
                obtain ⟨z, h5, hd⟩ := Option.bind_eq_some_iff.mp hd
                cases hd
                exact s_fn2 o f hg g1 g2 (of_uE (sE a1 x o h1 wf.1) h3) (of_uE (sE b1 y o h2 wf.2) h4) h5
              | _ => exact absurd hok Bool.false_ne_true
            | _ => exact absurd hok Bool.false_ne_true
          | _ => exact absurd hok Bool.false_ne_true
        | _ => exact absurd hok Bool.false_ne_true
      | _ => exact absurd hok Bool.false_ne_true
    | _ => exact absurd hok Bool.false_ne_true
  | .max3 a1 b1 c1, a, o, hok, wf => by
    cases a with
    | Call fn args kws p =>
      cases fn with
      | Name g q =>
        cases args with
        | cons x xs =>
          cases xs with
          | cons y ys =>
            cases ys with
            | cons y2 ys =>
              cases ys with
              | nil  =>
                cases kws with
                | nil  =>
                  simp only [okE, Bool.and_eq_true, decide_eq_true_eq] at hok
                  obtain ⟨⟨⟨⟨⟨⟨⟨rfl, hg⟩, g1⟩, g2⟩, g3⟩, h1⟩, h2⟩, h6⟩ := hok
                  refine to_uE fun G bg ρ ρ' d hd => ?_
                  simp only [den] at hd
                  obtain ⟨⟨v, ρ1⟩, h3, hd⟩ := Option.bind_eq_some_iff.mp hd
                  obtain ⟨⟨w, ρ2⟩, h4, hd⟩ := Option.bind_eq_some_iff.mp hd
                  obtain ⟨⟨u, ρ3⟩, h7, hd⟩ := Option.bind_eq_some_iff.mp hd
                  obtain ⟨z, h5, hd⟩ := Option.bind_eq_some_iff.mp hd
                  cases hd
                  exact s_max3 o hg g1 g2 g3 (of_uE (sE a1 x o h1 wf.1) h3) (of_uE (sE b1 y o h2 wf.2.1) h4) (of_uE (sE c1 y2 o h6 wf.2.2) h7) h5
                | _ => exact absurd hok Bool.false_ne_true
              | _ => exact absurd hok Bool.false_ne_true
            | _ => exact absurd hok Bool.false_ne_true
          | _ => exact absurd hok Bool.false_ne_true
        | _ => exact absurd hok Bool.false_ne_true
      | _ => exact absurd hok Bool.false_ne_true
    | _ => exact absurd hok Bool.false_ne_true
  | .isi a1 ts, a, o, hok, wf => by
    cases a with
    | Call fn args kws p =>
      cases fn with
      | Name g q =>
        cases args with
        | cons x xs =>
          cases xs with
          | cons y ys =>
            cases ys with
            | nil  =>
              cases kws with
              | nil  =>
                have hok : (decide (g = "isinstance") && decide (ts.length ≤ 1000) && glB cc g && notStar x && okE cc a1 x && (match (generalizing := false) y with | .Tuple es _ _ => okTys cc ts es | _ => okTy cc ts y)) = true := hok
                simp only [Bool.and_eq_true, decide_eq_true_eq] at hok
                obtain ⟨⟨⟨⟨⟨rfl, hl⟩, hg⟩, g1⟩, h1⟩, h2⟩ := hok
                refine to_uE fun G bg ρ ρ' d hd => ?_
                simp only [den] at hd
                obtain ⟨⟨v, ρ1⟩, h3, hd⟩ := Option.bind_eq_some_iff.mp hd
                cases hd
                exact s_isi o hg g1 (of_uE (sE a1 x o h1 wf) h3) h2 hl
              | _ => exact absurd hok Bool.false_ne_true
            | _ => exact absurd hok Bool.false_ne_true
          | _ => exact absurd hok Bool.false_ne_true
        | _ => exact absurd hok Bool.false_ne_true
      | _ => exact absurd hok Bool.false_ne_true
    | _ => exact absurd hok Bool.false_ne_true
  | .idx a1 b1, a, o, hok, wf => by
    cases a with
    | Subscript x y p =>
      have hok : (notSlice y && okE cc a1 x && okE cc b1 y) = true := hok
      simp only [Bool.and_eq_true] at hok
      obtain ⟨⟨g1, h1⟩, h2⟩ := hok
      refine to_uE fun G bg ρ ρ' d hd => ?_
      simp only [den] at hd
      obtain ⟨⟨v, ρ1⟩, h3, hd⟩ := Option.bind_eq_some_iff.mp hd
      obtain ⟨⟨w, ρ2⟩, h4, hd⟩ := Option.bind_eq_some_iff.mp hd
      obtain ⟨z, h5, hd⟩ := Option.bind_eq_some_iff.mp hd
      cases hd
      exact s_idx o.room g1 (of_uE (sE a1 x o h1 wf.1) h3) (of_uE (sE b1 y o h2 wf.2) h4) h5
    | _ => exact absurd hok Bool.false_ne_true
  | .cut a1 lo hi, a, o, hok, wf => by
    cases a with
    | Subscript x y p =>
      cases y with
      | Slice l h st p2 =>
        cases st with
        | none  =>
          simp only [okE, Bool.and_eq_true, decide_eq_true_eq] at hok
          obtain ⟨⟨h1, h2⟩, h6⟩ := hok
          refine to_uE fun G bg ρ ρ' d hd => ?_
          simp only [den] at hd
          obtain ⟨⟨v, ρ1⟩, h3, hd⟩ := Option.bind_eq_some_iff.mp hd
          obtain ⟨⟨w, ρ2⟩, h4, hd⟩ := Option.bind_eq_some_iff.mp hd
          obtain ⟨⟨u, ρ3⟩, h7, hd⟩ := Option.bind_eq_some_iff.mp hd
          obtain ⟨z, h5, hd⟩ := Option.bind_eq_some_iff.mp hd
          cases hd
          exact s_cut (tl := tNoPart) (th := tNoPart) (of_uE (sE a1 x o h1 wf.1) h3) (sO lo l o h2 wf.2.1 h4) (sO hi h o h6 wf.2.2 h7) h5
        | _ => exact absurd hok Bool.false_ne_true
      | _ => exact absurd hok Bool.false_ne_true
    | _ => exact absurd hok Bool.false_ne_true
  | .step a1 k, a, o, hok, wf => by
    cases a with
    | Subscript x y p =>
      cases y with
      | Slice l h st p2 =>
        cases l with
        | none  =>
          cases h with
          | none  =>
            cases st with
            | some st =>
              have hok : (okE cc a1 x && (match (generalizing := false) st with | .UnaryOp .USub (.Constant (.int j) _ _) _ => j == 1 && k == -1 | _ => false)) = true := hok
              rw [Bool.and_eq_true] at hok
              obtain ⟨h1, h2⟩ := hok
              split at h2
              · rename_i j kk p3 p4
                rw [Bool.and_eq_true] at h2
                have ej := eq_of_beq h2.1
                have ek := eq_of_beq h2.2
                subst ej ek
                refine to_uE fun G bg ρ ρ' d hd => ?_
                simp only [den] at hd
                obtain ⟨⟨v, ρ1⟩, h3, hd⟩ := Option.bind_eq_some_iff.mp hd
                obtain ⟨z, h5, hd⟩ := Option.bind_eq_some_iff.mp hd
                cases hd
                exact s_rev (of_uE (sE a1 x o h1 wf) h3) (s_neg (s_const pe_int fun H => .int _)) h5
              · cases h2
            | _ => exact absurd hok Bool.false_ne_true
          | _ => exact absurd hok Bool.false_ne_true
        | _ => exact absurd hok Bool.false_ne_true
      | _ => exact absurd hok Bool.false_ne_true
    | _ => exact absurd hok Bool.false_ne_true
  | .index a1 b1, a, o, hok, wf => by
    cases a with
    | Call fn args kws p =>
      cases fn with
      | Attribute x m ap =>
        cases args with
        | cons y ys =>
          cases ys with
          | nil  =>
            cases kws with
            | nil  =>
              simp only [okE, Bool.and_eq_true, decide_eq_true_eq] at hok
              obtain ⟨⟨⟨⟨⟨rfl, g1⟩, g2⟩, g3⟩, h1⟩, h2⟩ := hok
              refine to_uE fun G bg ρ ρ' d hd => ?_
              simp only [den] at hd
              obtain ⟨⟨v, ρ1⟩, h3, hd⟩ := Option.bind_eq_some_iff.mp hd
              obtain ⟨⟨w, ρ2⟩, h4, hd⟩ := Option.bind_eq_some_iff.mp hd
              split at hd
              · rename_i xs hx
                split at hd
                · rename_i hh
                  cases hd
                  exact s_index o.room g2 g1 g3 (of_uE (sE a1 x o h1 wf.1) h3) (of_uE (sE b1 y o h2 wf.2) h4) hx hh
                · cases hd
              · cases hd
            | _ => exact absurd hok Bool.false_ne_true
          | _ => exact absurd hok Bool.false_ne_true
        | _ => exact absurd hok Bool.false_ne_true
      | _ => exact absurd hok Bool.false_ne_true
    | _ => exact absurd hok Bool.false_ne_true
  | .lc e g it ifs own, a, o, hok, wf => by
    cases a with
    | ListComp el gs scope p =>
      cases gs with
      | cons gc gs =>
        obtain ⟨tg, iter, fs, z⟩ := gc
        cases gs with
        | nil  =>
          have hok := lcB_of (e := e) (g := g) (it := it) (ifs := ifs) (own := own) hok
          obtain ⟨rfl, hb, hn, hg, h1, h2, h3⟩ := hok
          exact (s_lc o hb hn hg (sIt it iter tg o h1 wf.1) (fun s H C cl fp => by have := sTs ifs fs (o.block (s := s) (H := H) (C := C) (cl := cl) (fp := fp)) h2 wf.2.1; rw [uTs_blk] at this; exact this) (fun s H C cl fp => by have := sE e el (o.block (s := s) (H := H) (C := C) (cl := cl) (fp := fp)) h3 wf.2.2; rw [uE_blk] at this; exact this)).frz lc_isL
        | _ => exact absurd hok Bool.false_ne_true
      | _ => exact absurd hok Bool.false_ne_true
    | _ => exact absurd hok Bool.false_ne_true
  | .lc2 e g it g2 it2 ifs2 own own2, a, o, hok, wf => by
    cases a with
    | ListComp el gs scope p =>
      cases gs with
      | cons gc gs =>
        obtain ⟨tg, iter, fs, z⟩ := gc
        cases gs with
        | cons gc2 gs =>
          obtain ⟨tg2, iter2, fs2, z2⟩ := gc2
          cases gs with
          | nil  =>
            have hok := lc2B_of (e := e) (g := g) (it := it) (g2 := g2) (it2 := it2) (ifs2 := ifs2) (own := own) (own2 := own2) hok
            obtain ⟨rfl, rfl, rfl, hb, hn, hn2, hv, hv2, hg, h1, hg2, h4, h2, h3⟩ := hok
            exact (s_lc2 o hb hn hn2 hv hg hg2 hv2 (sIt it iter tg o h1 wf.1) (fun s H C cl fp => by have := sIt it2 iter2 tg2 (o.block (s := s) (H := H) (C := C) (cl := cl) (fp := fp)) h4 wf.2.1; rw [uI_blk] at this; exact this) (fun s H C cl fp => by have := sTs ifs2 fs2 (o.block (s := s) (H := H) (C := C) (cl := cl) (fp := fp)) h2 wf.2.2.1; rw [uTs_blk] at this; exact this) (fun s H C cl fp => by have := sE e el (o.block (s := s) (H := H) (C := C) (cl := cl) (fp := fp)) h3 wf.2.2.2; rw [uE_blk] at this; exact this)).frz lc2_isL
          | _ => exact absurd hok Bool.false_ne_true
        | _ => exact absurd hok Bool.false_ne_true
      | _ => exact absurd hok Bool.false_ne_true
    | _ => exact absurd hok Bool.false_ne_true
  | .dc k v g it own, a, o, hok, wf => by
    cases a with
    | DictComp kx vx gs scope p =>
      cases gs with
      | cons gc gs =>
        obtain ⟨tg, iter, fs, z⟩ := gc
        cases gs with
        | nil  =>
          have hok := dcB_of (k := k) (v := v) (g := g) (it := it) (own := own) hok
          obtain ⟨rfl, rfl, hb, hn, hg, h1, h2, h3⟩ := hok
          exact (s_dc o hb hn hg (sIt it iter tg o h1 wf.1) (fun s H C cl fp => by have := sE k kx (o.block (s := s) (H := H) (C := C) (cl := cl) (fp := fp)) h2 wf.2.1; rw [uE_blk] at this; exact this) (fun s H C cl fp => by have := sE v vx (o.block (s := s) (H := H) (C := C) (cl := cl) (fp := fp)) h3 wf.2.2; rw [uE_blk] at this; exact this)).frzD dc_isD
        | _ => exact absurd hok Bool.false_ne_true
      | _ => exact absurd hok Bool.false_ne_true
    | _ => exact absurd hok Bool.false_ne_true
  | .oIdx i b1, a, o, hok, wf => by
    cases a with
    | Subscript x y p =>
      cases x with
      | Name nm q =>
        have hok : (nmB cc i nm && notSlice y && okE cc b1 y) = true := hok
        simp only [Bool.and_eq_true] at hok
        obtain ⟨⟨hn, g1⟩, h1⟩ := hok
        refine to_uE fun G bg ρ ρ' d hd => ?_
        simp only [den] at hd
        split at hd
        · rename_i hi
          obtain ⟨⟨v, ρ1⟩, h3, hd⟩ := Option.bind_eq_some_iff.mp hd
          split at hd
          · rename_i xs e
            obtain ⟨z, h5, hd⟩ := Option.bind_eq_some_iff.mp hd
            cases hd
            exact s_oIdx o hn g1 hi (of_uE (sE b1 y o h1 wf) h3) (.inl ⟨xs, .inl e, h5⟩)
          · rename_i xs e
            obtain ⟨z, h5, hd⟩ := Option.bind_eq_some_iff.mp hd
            cases hd
            exact s_oIdx o hn g1 hi (of_uE (sE b1 y o h1 wf) h3) (.inl ⟨xs, .inr e, h5⟩)
          · rename_i xs e
            obtain ⟨z, h5, hd⟩ := Option.bind_eq_some_iff.mp hd
            cases hd
            exact s_oIdx o hn g1 hi (of_uE (sE b1 y o h1 wf) h3) (.inr ⟨xs, e, h5⟩)
          · cases hd
        · split at hd
          · rename_i xd e
            obtain ⟨⟨v, ρ1⟩, h3, hd⟩ := Option.bind_eq_some_iff.mp hd
            obtain ⟨z, h5, hd⟩ := Option.bind_eq_some_iff.mp hd
            cases hd
            exact s_idx o.room g1 (s_var o hn (by unfold rdVar; rw [e])) (of_uE (sE b1 y o h1 wf) h3) h5
          · cases hd
      | _ => exact absurd hok Bool.false_ne_true
    | _ => exact absurd hok Bool.false_ne_true
  | .oIn neg a1 i, a, o, hok, wf => by
    cases a with
    | Compare x ops ys p =>
      cases ops with
      | cons f fs =>
        cases fs with
        | nil  =>
          cases ys with
          | cons y ys =>
            cases y with
            | Name nm q =>
              cases ys with
              | nil  =>
                simp only [okE, Bool.and_eq_true, decide_eq_true_eq] at hok
                obtain ⟨⟨rfl, hn⟩, h1⟩ := hok
                refine to_uE fun G bg ρ ρ' d hd => ?_
                simp only [den] at hd
                obtain ⟨⟨v, ρ1⟩, h3, hd⟩ := Option.bind_eq_some_iff.mp hd
                split at hd
                · rename_i kvs e
                  obtain ⟨z, h5, hd⟩ := Option.bind_eq_some_iff.mp hd
                  cases hd
                  exact (s_oIn o hn (of_uE (sE a1 x o h1 wf) h3) e h5).1
                · rename_i kvs e
                  obtain ⟨z, h5, hd⟩ := Option.bind_eq_some_iff.mp hd
                  cases hd
                  exact (s_inD o hn (of_uE (sE a1 x o h1 wf) h3) (by unfold rdVar; rw [e]) h5).1
                · cases hd
              | _ => exact absurd hok Bool.false_ne_true
            | _ => exact absurd hok Bool.false_ne_true
          | _ => exact absurd hok Bool.false_ne_true
        | _ => exact absurd hok Bool.false_ne_true
      | _ => exact absurd hok Bool.false_ne_true
    | _ => exact absurd hok Bool.false_ne_true
  | .oGet i k1 x1, a, o, hok, wf => by
    cases a with
    | Call fn args kws p =>
      cases fn with
      | Attribute nmx m ap =>
        cases nmx with
        | Name nm q =>
          cases args with
          | cons y ys =>
            cases ys with
            | cons z zs =>
              cases zs with
              | nil  =>
                cases kws with
                | nil  =>
                  simp only [okE, Bool.and_eq_true, decide_eq_true_eq] at hok
                  obtain ⟨⟨⟨⟨⟨⟨rfl, g1⟩, g2⟩, g3⟩, hn⟩, h1⟩, h2⟩ := hok
                  refine to_uE fun G bg ρ ρ' d hd => ?_
                  simp only [den] at hd
                  split at hd
                  · rename_i hi
                    obtain ⟨⟨v, ρ1⟩, h3, hd⟩ := Option.bind_eq_some_iff.mp hd
                    obtain ⟨⟨w, ρ2⟩, h4, hd⟩ := Option.bind_eq_some_iff.mp hd
                    split at hd
                    · rename_i kvs e
                      obtain ⟨z, h5, hd⟩ := Option.bind_eq_some_iff.mp hd
                      cases hd
                      exact s_oGet o hn g1 g2 g3 hi (of_uE (sE k1 y o h1 wf.1) h3) (of_uE (sE x1 _ o h2 wf.2) h4) e h5
                    · cases hd
                  · cases hd
                | _ => exact absurd hok Bool.false_ne_true
              | _ => exact absurd hok Bool.false_ne_true
            | _ => exact absurd hok Bool.false_ne_true
          | _ => exact absurd hok Bool.false_ne_true
        | _ => exact absurd hok Bool.false_ne_true
      | _ => exact absurd hok Bool.false_ne_true
    | _ => exact absurd hok Bool.false_ne_true
  | .oLen i, a, o, hok, wf => by
    cases a with
    | Call fn args kws p =>
      cases fn with
      | Name g q =>
        cases args with
        | cons x xs =>
          cases x with
          | Name nm q2 =>
            cases xs with
            | nil  =>
              cases kws with
              | nil  =>
                simp only [okE, Bool.and_eq_true, decide_eq_true_eq] at hok
                obtain ⟨⟨rfl, hg⟩, hn⟩ := hok
                refine to_uE fun G bg ρ ρ' d hd => ?_
                simp only [den] at hd
                split at hd
                · rename_i xs e
                  cases hd
                  exact s_oLen o hg hn e
                · rename_i xd e
                  obtain ⟨z, h5, hd⟩ := Option.bind_eq_some_iff.mp hd
                  cases hd
                  exact s_fn o .len (by decide) hg rfl (s_var o hn (by unfold rdVar; rw [e])) h5
                · cases hd
              | _ => exact absurd hok Bool.false_ne_true
            | _ => exact absurd hok Bool.false_ne_true
          | _ => exact absurd hok Bool.false_ne_true
        | _ => exact absurd hok Bool.false_ne_true
      | _ => exact absurd hok Bool.false_ne_true
    | _ => exact absurd hok Bool.false_ne_true
  | .oCmp op i b1, a, o, hok, wf => by
    cases a with
    | Compare x ops ys p =>
      cases x with
      | Name nm q =>
        cases ops with
        | cons f fs =>
          cases fs with
          | nil  =>
            cases ys with
            | cons y ys =>
              cases ys with
              | nil  =>
                simp only [okE, Bool.and_eq_true, decide_eq_true_eq] at hok
                obtain ⟨⟨⟨⟨ho, rfl⟩, g1⟩, hn⟩, h1⟩ := hok
                refine to_uE fun G bg ρ ρ' d hd => ?_
                simp only [den] at hd
                split at hd
                · rename_i hi
                  obtain ⟨⟨v, ρ1⟩, h3, hd⟩ := Option.bind_eq_some_iff.mp hd
                  split at hd
                  · rename_i xs e
                    split at hd
                    · obtain ⟨z, h5, hd⟩ := Option.bind_eq_some_iff.mp hd
                      cases hd
                      exact (s_oCmp o op hn g1 hi (of_uE (sE b1 y o h1 wf) h3) e ho h5).1
                    · cases hd
                  · cases hd
                · split at hd
                  · rename_i xd e
                    obtain ⟨⟨v, ρ1⟩, h3, hd⟩ := Option.bind_eq_some_iff.mp hd
                    obtain ⟨z, h5, hd⟩ := Option.bind_eq_some_iff.mp hd
                    cases hd
                    exact s_cmp o.room op (s_var o hn (by unfold rdVar; rw [e])) (of_uE (sE b1 y o h1 wf) h3) g1 h5
                  · cases hd
              | _ => exact absurd hok Bool.false_ne_true
            | _ => exact absurd hok Bool.false_ne_true
          | _ => exact absurd hok Bool.false_ne_true
        | _ => exact absurd hok Bool.false_ne_true
      | _ => exact absurd hok Bool.false_ne_true
    | _ => exact absurd hok Bool.false_ne_true
  | .sortK a1, a, o, hok, wf => by cases a <;> exact absurd hok Bool.false_ne_true
termination_by structural e => e
theorem sAndL {cc : CC} {X : Cx} {lv : Nat} {p : Pos} : ∀ (e : E) (l : List Expr), OkX cc X lv → okAnd cc e l = true → wfE (HasP X lv) (HasB X lv) (HasG X) e → PE X (.BoolOp .And l p) (uE X e)
  | .var i, a, o, hok, wf => absurd hok (by cases a <;> exact Bool.false_ne_true)
  | .glo x v, a, o, hok, wf => absurd hok (by cases a <;> exact Bool.false_ne_true)
  | .int i, a, o, hok, wf => absurd hok (by cases a <;> exact Bool.false_ne_true)
  | .str i, a, o, hok, wf => absurd hok (by cases a <;> exact Bool.false_ne_true)
  | .bl i, a, o, hok, wf => absurd hok (by cases a <;> exact Bool.false_ne_true)
  | .non, a, o, hok, wf => absurd hok (by cases a <;> exact Bool.false_ne_true)
  | .tup es, a, o, hok, wf => absurd hok (by cases a <;> exact Bool.false_ne_true)
  | .lst es, a, o, hok, wf => absurd hok (by cases a <;> exact Bool.false_ne_true)
  | .bin op a1 b1, a, o, hok, wf => absurd hok (by cases a <;> exact Bool.false_ne_true)
  | .neg a1, a, o, hok, wf => absurd hok (by cases a <;> exact Bool.false_ne_true)
  | .cmp op a1 b1, a, o, hok, wf => absurd hok (by cases a <;> exact Bool.false_ne_true)
  | .chn o1 o2 a1 b1 c1, a, o, hok, wf => absurd hok (by cases a <;> exact Bool.false_ne_true)
  | .and a1 b1, a, o, hok, wf => by
    cases a with
    | cons x xs =>
      cases xs with
      | cons y r =>
        have hok : (okE cc a1 x && (match (generalizing := false) r with | [] => okE cc b1 y | _ :: _ => okAnd cc b1 (y :: r))) = true := hok
        rw [Bool.and_eq_true] at hok
        obtain ⟨h1, h2⟩ := hok
        have hb : PE X (.BoolOp .And (y :: r) p) (uE X b1) := by
          cases r with
          | nil => exact pe_one (sE b1 y o h2 wf.2)
          | cons z r => exact sAndL b1 (y :: z :: r) o h2 wf.2
        refine to_uE fun G bg ρ ρ' d hd => ?_
        simp only [den] at hd
        obtain ⟨⟨v, ρ1⟩, h3, hd⟩ := Option.bind_eq_some_iff.mp hd
        obtain ⟨k, h5, hd⟩ := Option.bind_eq_some_iff.mp hd
        have e5 : v = _ := truth_eq h5
        rw [e5] at h3
        split at hd
        · rename_i hk
          rw [hk] at h3
          exact s_and_t (of_uE (sE a1 x o h1 wf.1) h3) (of_uE hb hd)
        · rename_i hk
          have hk : k = false := by simpa using hk
          rw [hk] at h3
          cases hd
          exact s_and_f (of_uE (sE a1 x o h1 wf.1) h3)
      | _ => exact absurd hok Bool.false_ne_true
    | _ => exact absurd hok Bool.false_ne_true
  | .or a1 b1, a, o, hok, wf => absurd hok (by cases a <;> exact Bool.false_ne_true)
  | .nt a1, a, o, hok, wf => absurd hok (by cases a <;> exact Bool.false_ne_true)
  | .ite t a1 b1, a, o, hok, wf => absurd hok (by cases a <;> exact Bool.false_ne_true)
  | .call f F es, a, o, hok, wf => absurd hok (by cases a <;> exact Bool.false_ne_true)
  | .callB f F i es, a, o, hok, wf => absurd hok (by cases a <;> exact Bool.false_ne_true)
  | .fn f a1, a, o, hok, wf => absurd hok (by cases a <;> exact Bool.false_ne_true)
  | .fn2 f a1 b1, a, o, hok, wf => absurd hok (by cases a <;> exact Bool.false_ne_true)
  | .max3 a1 b1 c1, a, o, hok, wf => absurd hok (by cases a <;> exact Bool.false_ne_true)
  | .isi a1 ts, a, o, hok, wf => absurd hok (by cases a <;> exact Bool.false_ne_true)
  | .idx a1 b1, a, o, hok, wf => absurd hok (by cases a <;> exact Bool.false_ne_true)
  | .cut a1 lo hi, a, o, hok, wf => absurd hok (by cases a <;> exact Bool.false_ne_true)
  | .step a1 k, a, o, hok, wf => absurd hok (by cases a <;> exact Bool.false_ne_true)
  | .index a1 b1, a, o, hok, wf => absurd hok (by cases a <;> exact Bool.false_ne_true)
  | .lc e g it ifs own, a, o, hok, wf => absurd hok (by cases a <;> exact Bool.false_ne_true)
  | .lc2 e g it g2 it2 ifs2 own own2, a, o, hok, wf => absurd hok (by cases a <;> exact Bool.false_ne_true)
  | .dc k v g it own, a, o, hok, wf => absurd hok (by cases a <;> exact Bool.false_ne_true)
  | .oIdx i b1, a, o, hok, wf => absurd hok (by cases a <;> exact Bool.false_ne_true)
  | .oIn neg a1 i, a, o, hok, wf => absurd hok (by cases a <;> exact Bool.false_ne_true)
  | .oGet i k1 x1, a, o, hok, wf => absurd hok (by cases a <;> exact Bool.false_ne_true)
  | .oLen i, a, o, hok, wf => absurd hok (by cases a <;> exact Bool.false_ne_true)
  | .oCmp op i b1, a, o, hok, wf => absurd hok (by cases a <;> exact Bool.false_ne_true)
  | .sortK a1, a, o, hok, wf => absurd hok (by cases a <;> exact Bool.false_ne_true)
termination_by structural e => e
theorem sOrL {cc : CC} {X : Cx} {lv : Nat} {p : Pos} : ∀ (e : E) (l : List Expr), OkX cc X lv → okOr cc e l = true → wfE (HasP X lv) (HasB X lv) (HasG X) e → PE X (.BoolOp .Or l p) (uE X e)
  | .var i, a, o, hok, wf => absurd hok (by cases a <;> exact Bool.false_ne_true)
  | .glo x v, a, o, hok, wf => absurd hok (by cases a <;> exact Bool.false_ne_true)
  | .int i, a, o, hok, wf => absurd hok (by cases a <;> exact Bool.false_ne_true)
  | .str i, a, o, hok, wf => absurd hok (by cases a <;> exact Bool.false_ne_true)
  | .bl i, a, o, hok, wf => absurd hok (by cases a <;> exact Bool.false_ne_true)
  | .non, a, o, hok, wf => absurd hok (by cases a <;> exact Bool.false_ne_true)
  | .tup es, a, o, hok, wf => absurd hok (by cases a <;> exact Bool.false_ne_true)
  | .lst es, a, o, hok, wf => absurd hok (by cases a <;> exact Bool.false_ne_true)
  | .bin op a1 b1, a, o, hok, wf => absurd hok (by cases a <;> exact Bool.false_ne_true)
  | .neg a1, a, o, hok, wf => absurd hok (by cases a <;> exact Bool.false_ne_true)
  | .cmp op a1 b1, a, o, hok, wf => absurd hok (by cases a <;> exact Bool.false_ne_true)
  | .chn o1 o2 a1 b1 c1, a, o, hok, wf => absurd hok (by cases a <;> exact Bool.false_ne_true)
  | .and a1 b1, a, o, hok, wf => absurd hok (by cases a <;> exact Bool.false_ne_true)
  | .or a1 b1, a, o, hok, wf => by
    cases a with
    | cons x xs =>
      cases xs with
      | cons y r =>
        have hok : (okE cc a1 x && (match (generalizing := false) r with | [] => okE cc b1 y | _ :: _ => okOr cc b1 (y :: r))) = true := hok
        rw [Bool.and_eq_true] at hok
        obtain ⟨h1, h2⟩ := hok
        have hb : PE X (.BoolOp .Or (y :: r) p) (uE X b1) := by
          cases r with
          | nil => exact pe_one (sE b1 y o h2 wf.2)
          | cons z r => exact sOrL b1 (y :: z :: r) o h2 wf.2
        refine to_uE fun G bg ρ ρ' d hd => ?_
        simp only [den] at hd
        obtain ⟨⟨v, ρ1⟩, h3, hd⟩ := Option.bind_eq_some_iff.mp hd
        obtain ⟨k, h5, hd⟩ := Option.bind_eq_some_iff.mp hd
        have e5 : v = _ := truth_eq h5
        rw [e5] at h3
        split at hd
        · rename_i hk
          rw [hk] at h3
          cases hd
          exact s_or_t (of_uE (sE a1 x o h1 wf.1) h3)
        · rename_i hk
          have hk : k = false := by simpa using hk
          rw [hk] at h3
          exact s_or_f (of_uE (sE a1 x o h1 wf.1) h3) (of_uE hb hd)
      | _ => exact absurd hok Bool.false_ne_true
    | _ => exact absurd hok Bool.false_ne_true
  | .nt a1, a, o, hok, wf => absurd hok (by cases a <;> exact Bool.false_ne_true)
  | .ite t a1 b1, a, o, hok, wf => absurd hok (by cases a <;> exact Bool.false_ne_true)
  | .call f F es, a, o, hok, wf => absurd hok (by cases a <;> exact Bool.false_ne_true)
  | .callB f F i es, a, o, hok, wf => absurd hok (by cases a <;> exact Bool.false_ne_true)
  | .fn f a1, a, o, hok, wf => absurd hok (by cases a <;> exact Bool.false_ne_true)
  | .fn2 f a1 b1, a, o, hok, wf => absurd hok (by cases a <;> exact Bool.false_ne_true)
  | .max3 a1 b1 c1, a, o, hok, wf => absurd hok (by cases a <;> exact Bool.false_ne_true)
  | .isi a1 ts, a, o, hok, wf => absurd hok (by cases a <;> exact Bool.false_ne_true)
  | .idx a1 b1, a, o, hok, wf => absurd hok (by cases a <;> exact Bool.false_ne_true)
  | .cut a1 lo hi, a, o, hok, wf => absurd hok (by cases a <;> exact Bool.false_ne_true)
  | .step a1 k, a, o, hok, wf => absurd hok (by cases a <;> exact Bool.false_ne_true)
  | .index a1 b1, a, o, hok, wf => absurd hok (by cases a <;> exact Bool.false_ne_true)
  | .lc e g it ifs own, a, o, hok, wf => absurd hok (by cases a <;> exact Bool.false_ne_true)
  | .lc2 e g it g2 it2 ifs2 own own2, a, o, hok, wf => absurd hok (by cases a <;> exact Bool.false_ne_true)
  | .dc k v g it own, a, o, hok, wf => absurd hok (by cases a <;> exact Bool.false_ne_true)
  | .oIdx i b1, a, o, hok, wf => absurd hok (by cases a <;> exact Bool.false_ne_true)
  | .oIn neg a1 i, a, o, hok, wf => absurd hok (by cases a <;> exact Bool.false_ne_true)
  | .oGet i k1 x1, a, o, hok, wf => absurd hok (by cases a <;> exact Bool.false_ne_true)
  | .oLen i, a, o, hok, wf => absurd hok (by cases a <;> exact Bool.false_ne_true)
  | .oCmp op i b1, a, o, hok, wf => absurd hok (by cases a <;> exact Bool.false_ne_true)
  | .sortK a1, a, o, hok, wf => absurd hok (by cases a <;> exact Bool.false_ne_true)
termination_by structural e => e
theorem sEs {cc : CC} {X : Cx} {lv : Nat} : ∀ (es : Es) (as : List Expr), OkX cc X lv → okEs cc es as = true → wfEs (HasP X lv) (HasB X lv) (HasG X) es → PA X as (uA X es)
  | .nil, a, o, hok, wf => by
    cases a with
    | nil => exact to_uA fun G bg ρ ρ' d hd => by cases hd; exact sa_nil
    | _ => exact absurd hok Bool.false_ne_true
  | .cons e es, a, o, hok, wf => by
    cases a with
    | cons x xs =>
      have hok : (notStar x && okE cc e x && okEs cc es xs) = true := hok
      simp only [Bool.and_eq_true] at hok
      obtain ⟨⟨g1, h1⟩, h2⟩ := hok
      refine to_uA fun G bg ρ ρ' d hd => ?_
      simp only [denEs] at hd
      obtain ⟨⟨v, ρ1⟩, h3, hd⟩ := Option.bind_eq_some_iff.mp hd
      obtain ⟨⟨w, ρ2⟩, h4, hd⟩ := Option.bind_eq_some_iff.mp hd
      cases hd
      exact sa_cons g1 (of_uE (sE e x o h1 wf.1) h3) (of_uA (sEs es xs o h2 wf.2) h4)
    | _ => exact absurd hok Bool.false_ne_true
termination_by structural e => e
theorem sO {cc : CC} {X : Cx} {lv : Nat} {G : Hp} {bg : Option Addr} : ∀ (e : OE) (a : Option Expr) {ρ ρ' : Env} {l : Option Int}, OkX cc X lv → okO cc e a = true → wfO (HasP X lv) (HasB X lv) (HasG X) e → denO e ρ = some (l, ρ') →
    PO X a (fun σ H Q => Rel X G bg ρ σ H ∧ ∀ H', Rel X G bg ρ' σ H' → Ext H H' → Q l H')
  | .no, a, ρ, ρ', l, o, hok, wf, hd => by
    cases a with
    | none => cases hd; exact so_none
    | some _ => exact absurd hok Bool.false_ne_true
  | .yes e, a, ρ, ρ', l, o, hok, wf, hd => by
    cases a with
    | none => exact absurd hok Bool.false_ne_true
    | some x =>
      have hok : okE cc e x = true := hok
      simp only [denO] at hd
      obtain ⟨⟨v, ρ1⟩, h3, hd⟩ := Option.bind_eq_some_iff.mp hd
      obtain ⟨z, h5, hd⟩ := Option.bind_eq_some_iff.mp hd
      split at hd
      · cases hd
        have e5 : v = _ := asInt_eq h5
        rw [e5] at h3
        exact so_some (of_uE (sE e x o hok wf) h3)
      · cases hd
termination_by structural e => e
theorem sT {cc : CC} {X : Cx} {lv : Nat} : ∀ (t : T) (a : Expr), OkX cc X lv → okT cc t a = true → wfT (HasP X lv) (HasB X lv) (HasG X) t → PT X a (uT X t)
  | .and a1 b1, a, o, hok, wf => by
    cases a with
    | BoolOp f xs p =>
      cases f with
      | And =>
        cases xs with
        | nil => exact absurd hok Bool.false_ne_true
        | cons x xs =>
          cases xs with
          | nil => exact absurd hok Bool.false_ne_true
          | cons y r =>
            have hok : (okT cc a1 x && (match (generalizing := false) r with | [] => okT cc b1 y | _ :: _ => okTAnd cc b1 (y :: r))) = true := hok
            rw [Bool.and_eq_true] at hok
            obtain ⟨h1, h2⟩ := hok
            refine pt_of_pw (tand_step (sT a1 x o h1 wf.1) ?_)
            cases r with
            | nil => exact pw_one (sT b1 y o h2 wf.2)
            | cons z r => exact sTAndL b1 (y :: z :: r) o h2 wf.2
      | _ => exact absurd hok Bool.false_ne_true
    | _ => exact absurd hok Bool.false_ne_true
  | .or a1 b1, a, o, hok, wf => by
    cases a with
    | BoolOp f xs p =>
      cases f with
      | Or =>
        cases xs with
        | nil => exact absurd hok Bool.false_ne_true
        | cons x xs =>
          cases xs with
          | nil => exact absurd hok Bool.false_ne_true
          | cons y r =>
            have hok : (okT cc a1 x && (match (generalizing := false) r with | [] => okT cc b1 y | _ :: _ => okTOr cc b1 (y :: r))) = true := hok
            rw [Bool.and_eq_true] at hok
            obtain ⟨h1, h2⟩ := hok
            refine pt_of_pw (tor_step (sT a1 x o h1 wf.1) ?_)
            cases r with
            | nil => exact pw_one (sT b1 y o h2 wf.2)
            | cons z r => exact sTOrL b1 (y :: z :: r) o h2 wf.2
      | _ => exact absurd hok Bool.false_ne_true
    | _ => exact absurd hok Bool.false_ne_true
  | .not a1, a, o, hok, wf => by
    cases a with
    | UnaryOp f x p =>
      cases f with
      | Not =>
        have hok : okT cc a1 x = true := hok
        refine to_uT fun G bg ρ ρ' d hd => ?_
        simp only [denT] at hd
        obtain ⟨⟨k, ρ1⟩, h3, hd⟩ := Option.bind_eq_some_iff.mp hd
        cases hd
        exact st_not (of_uT (sT a1 x o hok wf) h3)
      | _ => exact absurd hok Bool.false_ne_true
    | _ => exact absurd hok Bool.false_ne_true
  | .val e, a, o, hok, wf => by
    have hok := tval_of hok
    rw [Bool.and_eq_true, Bool.or_eq_true] at hok
    obtain ⟨h0, h1⟩ := hok
    by_cases hp : plainTest a = true
    · refine to_uT fun G bg ρ ρ' d hd => ?_
      simp only [denT] at hd
      obtain ⟨⟨v, ρ1⟩, h3, hd⟩ := Option.bind_eq_some_iff.mp hd
      obtain ⟨k, h5, hd⟩ := Option.bind_eq_some_iff.mp hd
      cases hd
      have e5 : v = _ := truth_eq h5
      rw [e5] at h3
      exact st_val hp (of_uE (sE e a o h1 wf) h3)
    · exact sTC e a o (h0.resolve_left hp) h1 wf
termination_by structural e => e
theorem sTC {cc : CC} {X : Cx} {lv : Nat} : ∀ (e : E) (a : Expr), OkX cc X lv → (match a with | .Compare _ _ [_] _ => true | .Compare _ _ [_, _] _ => true | _ => false) = true → okE cc e a = true → wfE (HasP X lv) (HasB X lv) (HasG X) e → PT X a (uT X (.val e))
  | .var i, a, o, hc, hok, wf => by
    cases a <;> first | exact absurd hc Bool.false_ne_true | exact absurd hok Bool.false_ne_true
  | .glo x v, a, o, hc, hok, wf => by
    cases a <;> first | exact absurd hc Bool.false_ne_true | exact absurd hok Bool.false_ne_true
  | .int i, a, o, hc, hok, wf => by
    cases a <;> first | exact absurd hc Bool.false_ne_true | exact absurd hok Bool.false_ne_true
  | .str i, a, o, hc, hok, wf => by
    cases a <;> first | exact absurd hc Bool.false_ne_true | exact absurd hok Bool.false_ne_true
  | .bl i, a, o, hc, hok, wf => by
    cases a <;> first | exact absurd hc Bool.false_ne_true | exact absurd hok Bool.false_ne_true
  | .non, a, o, hc, hok, wf => by
    cases a <;> first | exact absurd hc Bool.false_ne_true | exact absurd hok Bool.false_ne_true
  | .tup es, a, o, hc, hok, wf => by
    cases a <;> first | exact absurd hc Bool.false_ne_true | exact absurd hok Bool.false_ne_true
  | .lst es, a, o, hc, hok, wf => by
    cases a <;> first | exact absurd hc Bool.false_ne_true | exact absurd hok Bool.false_ne_true
  | .bin op a1 b1, a, o, hc, hok, wf => by
    cases a <;> first | exact absurd hc Bool.false_ne_true | exact absurd hok Bool.false_ne_true
  | .neg a1, a, o, hc, hok, wf => by
    cases a <;> first | exact absurd hc Bool.false_ne_true | exact absurd hok Bool.false_ne_true
  | .cmp op a1 b1, a, o, hc, hok, wf => by
    cases a with
    | Compare x ops ys p =>
      cases ops with
      | cons f fs =>
        cases fs with
        | nil  =>
          cases ys with
          | cons y ys =>
            cases ys with
            | nil  =>
              simp only [okE, Bool.and_eq_true, decide_eq_true_eq] at hok
              obtain ⟨⟨⟨rfl, h0⟩, h1⟩, h2⟩ := hok
              refine to_uT fun G bg ρ ρ' d hd => ?_
              simp only [denT, den] at hd
              obtain ⟨⟨dv, ρz⟩, hd, ht⟩ := Option.bind_eq_some_iff.mp hd
              obtain ⟨⟨v, ρ1⟩, h3, hd⟩ := Option.bind_eq_some_iff.mp hd
              obtain ⟨⟨w, ρ2⟩, h4, hd⟩ := Option.bind_eq_some_iff.mp hd
              obtain ⟨z, h5, hd⟩ := Option.bind_eq_some_iff.mp hd
              cases hd
              cases ht
              exact st_cmp o.room op (of_uE (sE a1 x o h1 wf.1) h3) (of_uE (sE b1 y o h2 wf.2) h4) h0 h5
            | _ => exact absurd hok Bool.false_ne_true
          | _ => exact absurd hok Bool.false_ne_true
        | _ => exact absurd hok Bool.false_ne_true
      | _ => exact absurd hok Bool.false_ne_true
    | _ => exact absurd hok Bool.false_ne_true
  | .chn o1 o2 a1 b1 c1, a, o, hc, hok, wf => by
    cases a with
    | Compare x ops ys p =>
      cases ops with
      | cons f fs =>
        cases fs with
        | cons f2 fs =>
          cases fs with
          | nil  =>
            cases ys with
            | cons y ys =>
              cases ys with
              | cons y2 ys =>
                cases ys with
                | nil  =>
                  simp only [okE, Bool.and_eq_true, decide_eq_true_eq] at hok
                  obtain ⟨⟨⟨⟨⟨⟨rfl, rfl⟩, g1⟩, g2⟩, h1⟩, h2⟩, h6⟩ := hok
                  refine to_uT fun G bg ρ ρ' d hd => ?_
                  simp only [denT, den] at hd
                  obtain ⟨⟨dv, ρz⟩, hd, ht⟩ := Option.bind_eq_some_iff.mp hd
                  obtain ⟨⟨v, ρ1⟩, h3, hd⟩ := Option.bind_eq_some_iff.mp hd
                  obtain ⟨⟨w, ρ2⟩, h4, hd⟩ := Option.bind_eq_some_iff.mp hd
                  obtain ⟨k, h5, hd⟩ := Option.bind_eq_some_iff.mp hd
                  split at hd
                  · rename_i hk
                    obtain ⟨⟨u, ρ3⟩, h7, hd⟩ := Option.bind_eq_some_iff.mp hd
                    obtain ⟨k2, h8, hd⟩ := Option.bind_eq_some_iff.mp hd
                    cases hd
                    cases ht
                    rw [hk] at h5
                    exact (s_chain_t o.room o1 o2 (of_uE (sE a1 x o h1 wf.1) h3) (of_uE (sE b1 y o h2 wf.2.1) h4) (of_uE (sE c1 y2 o h6 wf.2.2) h7) g2 h5 h8).2
                  · rename_i hk
                    cases hd
                    cases ht
                    have hk : k = false := by simpa using hk
                    rw [hk] at h5
                    exact (s_chain_f o.room o1 o2 (of_uE (sE a1 x o h1 wf.1) h3) (of_uE (sE b1 y o h2 wf.2.1) h4) g2 h5).2
                | _ => exact absurd hok Bool.false_ne_true
              | _ => exact absurd hok Bool.false_ne_true
            | _ => exact absurd hok Bool.false_ne_true
          | _ => exact absurd hok Bool.false_ne_true
        | _ => exact absurd hok Bool.false_ne_true
      | _ => exact absurd hok Bool.false_ne_true
    | _ => exact absurd hok Bool.false_ne_true
  | .and a1 b1, a, o, hc, hok, wf => by
    cases a <;> first | exact absurd hc Bool.false_ne_true | exact absurd hok Bool.false_ne_true
  | .or a1 b1, a, o, hc, hok, wf => by
    cases a <;> first | exact absurd hc Bool.false_ne_true | exact absurd hok Bool.false_ne_true
  | .nt a1, a, o, hc, hok, wf => by
    cases a <;> first | exact absurd hc Bool.false_ne_true | exact absurd hok Bool.false_ne_true
  | .ite t a1 b1, a, o, hc, hok, wf => by
    cases a <;> first | exact absurd hc Bool.false_ne_true | exact absurd hok Bool.false_ne_true
  | .call f F es, a, o, hc, hok, wf => by
    cases a <;> first | exact absurd hc Bool.false_ne_true | exact absurd hok Bool.false_ne_true
  | .callB f F i es, a, o, hc, hok, wf => by
    cases a <;> first | exact absurd hc Bool.false_ne_true | exact absurd hok Bool.false_ne_true
  | .fn f a1, a, o, hc, hok, wf => by
    cases a <;> first | exact absurd hc Bool.false_ne_true | exact absurd hok Bool.false_ne_true
  | .fn2 f a1 b1, a, o, hc, hok, wf => by
    cases a <;> first | exact absurd hc Bool.false_ne_true | exact absurd hok Bool.false_ne_true
  | .max3 a1 b1 c1, a, o, hc, hok, wf => by
    cases a <;> first | exact absurd hc Bool.false_ne_true | exact absurd hok Bool.false_ne_true
  | .isi a1 ts, a, o, hc, hok, wf => by
    cases a <;> first | exact absurd hc Bool.false_ne_true | exact absurd hok Bool.false_ne_true
  | .idx a1 b1, a, o, hc, hok, wf => by
    cases a <;> first | exact absurd hc Bool.false_ne_true | exact absurd hok Bool.false_ne_true
  | .cut a1 lo hi, a, o, hc, hok, wf => by
    cases a <;> first | exact absurd hc Bool.false_ne_true | exact absurd hok Bool.false_ne_true
  | .step a1 k, a, o, hc, hok, wf => by
    cases a <;> first | exact absurd hc Bool.false_ne_true | exact absurd hok Bool.false_ne_true
  | .index a1 b1, a, o, hc, hok, wf => by
    cases a <;> first | exact absurd hc Bool.false_ne_true | exact absurd hok Bool.false_ne_true
  | .lc e g it ifs own, a, o, hc, hok, wf => by
    cases a <;> first | exact absurd hc Bool.false_ne_true | exact absurd hok Bool.false_ne_true
  | .lc2 e g it g2 it2 ifs2 own own2, a, o, hc, hok, wf => by
    cases a <;> first | exact absurd hc Bool.false_ne_true | exact absurd hok Bool.false_ne_true
  | .dc k v g it own, a, o, hc, hok, wf => by
    cases a <;> first | exact absurd hc Bool.false_ne_true | exact absurd hok Bool.false_ne_true
  | .oIdx i b1, a, o, hc, hok, wf => by
    cases a <;> first | exact absurd hc Bool.false_ne_true | exact absurd hok Bool.false_ne_true
  | .oIn neg a1 i, a, o, hc, hok, wf => by
    cases a with
    | Compare x ops ys p =>
      cases ops with
      | cons f fs =>
        cases fs with
        | nil  =>
          cases ys with
          | cons y ys =>
            cases y with
            | Name nm q =>
              cases ys with
              | nil  =>
                simp only [okE, Bool.and_eq_true, decide_eq_true_eq] at hok
                obtain ⟨⟨rfl, hn⟩, h1⟩ := hok
                refine to_uT fun G bg ρ ρ' d hd => ?_
                simp only [denT, den] at hd
                obtain ⟨⟨dv, ρz⟩, hd, ht⟩ := Option.bind_eq_some_iff.mp hd
                obtain ⟨⟨v, ρ1⟩, h3, hd⟩ := Option.bind_eq_some_iff.mp hd
                split at hd
                · rename_i kvs e
                  obtain ⟨z, h5, hd⟩ := Option.bind_eq_some_iff.mp hd
                  cases hd
                  cases ht
                  exact (s_oIn o hn (of_uE (sE a1 x o h1 wf) h3) e h5).2
                · rename_i kvs e
                  obtain ⟨z, h5, hd⟩ := Option.bind_eq_some_iff.mp hd
                  cases hd
                  cases ht
                  exact (s_inD o hn (of_uE (sE a1 x o h1 wf) h3) (by unfold rdVar; rw [e]) h5).2
                · cases hd
              | _ => exact absurd hok Bool.false_ne_true
            | _ => exact absurd hok Bool.false_ne_true
          | _ => exact absurd hok Bool.false_ne_true
        | _ => exact absurd hok Bool.false_ne_true
      | _ => exact absurd hok Bool.false_ne_true
    | _ => exact absurd hok Bool.false_ne_true
  | .oGet i k1 x1, a, o, hc, hok, wf => by
    cases a <;> first | exact absurd hc Bool.false_ne_true | exact absurd hok Bool.false_ne_true
  | .oLen i, a, o, hc, hok, wf => by
    cases a <;> first | exact absurd hc Bool.false_ne_true | exact absurd hok Bool.false_ne_true
  | .oCmp op i b1, a, o, hc, hok, wf => by
    cases a with
    | Compare x ops ys p =>
      cases x with
      | Name nm q =>
        cases ops with
        | cons f fs =>
          cases fs with
          | nil  =>
            cases ys with
            | cons y ys =>
              cases ys with
              | nil  =>
                simp only [okE, Bool.and_eq_true, decide_eq_true_eq] at hok
                obtain ⟨⟨⟨⟨ho, rfl⟩, g1⟩, hn⟩, h1⟩ := hok
                refine to_uT fun G bg ρ ρ' d hd => ?_
                simp only [denT, den] at hd
                obtain ⟨⟨dv, ρz⟩, hd, ht⟩ := Option.bind_eq_some_iff.mp hd
                split at hd
                · rename_i hi
                  obtain ⟨⟨v, ρ1⟩, h3, hd⟩ := Option.bind_eq_some_iff.mp hd
                  split at hd
                  · rename_i xs e
                    split at hd
                    · obtain ⟨z, h5, hd⟩ := Option.bind_eq_some_iff.mp hd
                      cases hd
                      cases ht
                      exact (s_oCmp o op hn g1 hi (of_uE (sE b1 y o h1 wf) h3) e ho h5).2
                    · cases hd
                  · cases hd
                · split at hd
                  · rename_i xd e
                    obtain ⟨⟨v, ρ1⟩, h3, hd⟩ := Option.bind_eq_some_iff.mp hd
                    obtain ⟨z, h5, hd⟩ := Option.bind_eq_some_iff.mp hd
                    cases hd
                    cases ht
                    exact st_cmp o.room op (s_var o hn (by unfold rdVar; rw [e])) (of_uE (sE b1 y o h1 wf) h3) g1 h5
                  · cases hd
              | _ => exact absurd hok Bool.false_ne_true
            | _ => exact absurd hok Bool.false_ne_true
          | _ => exact absurd hok Bool.false_ne_true
        | _ => exact absurd hok Bool.false_ne_true
      | _ => exact absurd hok Bool.false_ne_true
    | _ => exact absurd hok Bool.false_ne_true
  | .sortK a1, a, o, hc, hok, wf => by cases a <;> exact absurd hok Bool.false_ne_true
termination_by structural e => e
theorem sTAndL {cc : CC} {X : Cx} {lv : Nat} {p : Pos} : ∀ (t : T) (l : List Expr), OkX cc X lv → okTAnd cc t l = true → wfT (HasP X lv) (HasB X lv) (HasG X) t → PW X (.BoolOp .And l p) (uT X t)
  | .and a1 b1, l, o, hok, wf => by
    cases l with
    | cons x xs =>
      cases xs with
      | cons y r =>
        have hok : (okT cc a1 x && (match (generalizing := false) r with | [] => okT cc b1 y | _ :: _ => okTAnd cc b1 (y :: r))) = true := hok
        rw [Bool.and_eq_true] at hok
        obtain ⟨h1, h2⟩ := hok
        refine tand_step (sT a1 x o h1 wf.1) ?_
        cases r with
        | nil => exact pw_one (sT b1 y o h2 wf.2)
        | cons z r => exact sTAndL b1 (y :: z :: r) o h2 wf.2
      | nil => exact absurd hok Bool.false_ne_true
    | nil => exact absurd hok Bool.false_ne_true
  | .val e, l, o, hok, wf => absurd hok (by cases l <;> exact Bool.false_ne_true)
  | .or a1 b1, l, o, hok, wf => absurd hok (by cases l <;> exact Bool.false_ne_true)
  | .not a1, l, o, hok, wf => absurd hok (by cases l <;> exact Bool.false_ne_true)
termination_by structural e => e
theorem sTOrL {cc : CC} {X : Cx} {lv : Nat} {p : Pos} : ∀ (t : T) (l : List Expr), OkX cc X lv → okTOr cc t l = true → wfT (HasP X lv) (HasB X lv) (HasG X) t → PW X (.BoolOp .Or l p) (uT X t)
  | .or a1 b1, l, o, hok, wf => by
    cases l with
    | cons x xs =>
      cases xs with
      | cons y r =>
        have hok : (okT cc a1 x && (match (generalizing := false) r with | [] => okT cc b1 y | _ :: _ => okTOr cc b1 (y :: r))) = true := hok
        rw [Bool.and_eq_true] at hok
        obtain ⟨h1, h2⟩ := hok
        refine tor_step (sT a1 x o h1 wf.1) ?_
        cases r with
        | nil => exact pw_one (sT b1 y o h2 wf.2)
        | cons z r => exact sTOrL b1 (y :: z :: r) o h2 wf.2
      | nil => exact absurd hok Bool.false_ne_true
    | nil => exact absurd hok Bool.false_ne_true
  | .val e, l, o, hok, wf => absurd hok (by cases l <;> exact Bool.false_ne_true)
  | .and a1 b1, l, o, hok, wf => absurd hok (by cases l <;> exact Bool.false_ne_true)
  | .not a1, l, o, hok, wf => absurd hok (by cases l <;> exact Bool.false_ne_true)
termination_by structural e => e
theorem sTs {cc : CC} {X : Cx} {lv : Nat} : ∀ (t : Ts) (fs : List Expr), OkX cc X lv → okTs cc t fs = true → wfTs (HasP X lv) (HasB X lv) (HasG X) t → PTs X fs (uTs X t)
  | .nil, fs, o, hok, wf => by
    cases fs with
    | nil => exact ⟨fun pins s σ H Q I ⟨G, bg, ρ, d, ρ', hd, R, q⟩ => by cases hd; exact pts_nil.run pins s σ H Q I (q H R (Ext.refl H))⟩
    | cons _ _ => exact absurd hok Bool.false_ne_true
  | .one t, fs, o, hok, wf => by
    cases fs with
    | nil => exact absurd hok Bool.false_ne_true
    | cons f fs =>
      cases fs with
      | nil =>
        have hok : okT cc t f = true := hok
        exact pts_one (sT t f o hok wf)
      | cons _ _ => exact absurd hok Bool.false_ne_true
termination_by structural e => e
theorem sIt {cc : CC} {X : Cx} {lv : Nat} : ∀ (t : It) (a : Expr) (tg : Expr), OkX cc X lv → okIt cc t a (isTupE tg) = true → wfIt (HasP X lv) (HasB X lv) (HasG X) t → PI X tg a (uI X t)
  | .seq e, a, tg, o, hok, wf => by
    have hok : okE cc e a = true := it_seq hok
    refine to_uI fun G bg ρ ρ' d hd => ?_
    simp only [denIt] at hd
    obtain ⟨⟨v, ρ1⟩, h3, hd⟩ := Option.bind_eq_some_iff.mp hd
    obtain ⟨z, h5, hd⟩ := Option.bind_eq_some_iff.mp hd
    cases hd
    exact si_seq (of_uE (sE e a o hok wf) h3) h5
  | .rng e, a, tg, o, hok, wf => by
    cases a with
    | Call fn args kws p =>
      cases fn with
      | Name g q =>
        cases args with
        | cons x xs =>
          cases xs with
          | nil  =>
            cases kws with
            | nil  =>
              simp only [okIt, Bool.and_eq_true, decide_eq_true_eq] at hok
              obtain ⟨⟨⟨rfl, hg⟩, g1⟩, h1⟩ := hok
              refine to_uI fun G bg ρ ρ' d hd => ?_
              simp only [denIt] at hd
              obtain ⟨⟨v, ρ1⟩, h3, hd⟩ := Option.bind_eq_some_iff.mp hd
              obtain ⟨z, h5, hd⟩ := Option.bind_eq_some_iff.mp hd
              split at hd
              · rename_i hs
                cases hd
                have e5 : v = _ := asInt_eq h5
                rw [e5] at h3
                exact si_rng o hg g1 (of_uE (sE e x o h1 wf) h3) hs
              · cases hd
            | _ => exact absurd hok Bool.false_ne_true
          | _ => exact absurd hok Bool.false_ne_true
        | _ => exact absurd hok Bool.false_ne_true
      | _ => exact absurd hok Bool.false_ne_true
    | _ => exact absurd hok Bool.false_ne_true
  | .rng2 e e2, a, tg, o, hok, wf => by
    cases a with
    | Call fn args kws p =>
      cases fn with
      | Name g q =>
        cases args with
        | cons x xs =>
          cases xs with
          | cons y ys =>
            cases ys with
            | nil  =>
              cases kws with
              | nil  =>
                simp only [okIt, Bool.and_eq_true, decide_eq_true_eq] at hok
                obtain ⟨⟨⟨⟨⟨rfl, hg⟩, g1⟩, g2⟩, h1⟩, h2⟩ := hok
                refine to_uI fun G bg ρ ρ' d hd => ?_
                simp only [denIt] at hd
                obtain ⟨⟨v, ρ1⟩, h3, hd⟩ := Option.bind_eq_some_iff.mp hd
                obtain ⟨⟨w, ρ2⟩, h4, hd⟩ := Option.bind_eq_some_iff.mp hd
                obtain ⟨z, h5, hd⟩ := Option.bind_eq_some_iff.mp hd
                obtain ⟨z2, h6, hd⟩ := Option.bind_eq_some_iff.mp hd
                split at hd
                · rename_i hs
                  cases hd
                  have e5 : v = _ := asInt_eq h5
                  rw [e5] at h3
                  have e6 : w = _ := asInt_eq h6
                  rw [e6] at h4
                  exact si_rng2 o hg g1 g2 (of_uE (sE e x o h1 wf.1) h3) (of_uE (sE e2 y o h2 wf.2) h4) hs
                · cases hd
              | _ => exact absurd hok Bool.false_ne_true
            | _ => exact absurd hok Bool.false_ne_true
          | _ => exact absurd hok Bool.false_ne_true
        | _ => exact absurd hok Bool.false_ne_true
      | _ => exact absurd hok Bool.false_ne_true
    | _ => exact absurd hok Bool.false_ne_true
  | .zip e e2, a, tg, o, hok, wf => by
    cases a with
    | Call fn args kws p =>
      cases fn with
      | Name g q =>
        cases args with
        | cons x xs =>
          cases xs with
          | cons y ys =>
            cases ys with
            | nil  =>
              cases kws with
              | nil  =>
                cases tg <;> first | (exact absurd (it_zipF hok rfl) Bool.false_ne_true) | skip
                simp only [okIt, Bool.and_eq_true, decide_eq_true_eq] at hok
                obtain ⟨⟨⟨⟨⟨⟨rfl, hg⟩, g1⟩, g2⟩, _⟩, h1⟩, h2⟩ := hok
                refine to_uI fun G bg ρ ρ' d hd => ?_
                simp only [denIt] at hd
                obtain ⟨⟨v, ρ1⟩, h3, hd⟩ := Option.bind_eq_some_iff.mp hd
                obtain ⟨⟨w, ρ2⟩, h4, hd⟩ := Option.bind_eq_some_iff.mp hd
                obtain ⟨z, h5, hd⟩ := Option.bind_eq_some_iff.mp hd
                obtain ⟨z2, h6, hd⟩ := Option.bind_eq_some_iff.mp hd
                cases hd
                exact si_zip o hg g1 g2 (of_uE (sE e x o h1 wf.1) h3) (of_uE (sE e2 y o h2 wf.2) h4) h5 h6
              | _ => exact absurd hok Bool.false_ne_true
            | _ => exact absurd hok Bool.false_ne_true
          | _ => exact absurd hok Bool.false_ne_true
        | _ => exact absurd hok Bool.false_ne_true
      | _ => exact absurd hok Bool.false_ne_true
    | _ => exact absurd hok Bool.false_ne_true
  | .enum e, a, tg, o, hok, wf => by
    cases a with
    | Call fn args kws p =>
      cases fn with
      | Name g q =>
        cases args with
        | cons x xs =>
          cases xs with
          | nil  =>
            cases kws with
            | nil  =>
              cases tg <;> first | (exact absurd (it_enumF hok rfl) Bool.false_ne_true) | skip
              simp only [okIt, Bool.and_eq_true, decide_eq_true_eq] at hok
              obtain ⟨⟨⟨⟨rfl, hg⟩, g1⟩, _⟩, h1⟩ := hok
              refine to_uI fun G bg ρ ρ' d hd => ?_
              simp only [denIt] at hd
              obtain ⟨⟨v, ρ1⟩, h3, hd⟩ := Option.bind_eq_some_iff.mp hd
              split at hd
              · rename_i xs hx
                cases hd
                have e5 : v = _ := hx
                rw [e5] at h3
                exact si_enum o hg g1 (of_uE (sE e x o h1 wf) h3)
              · cases hd
            | _ => exact absurd hok Bool.false_ne_true
          | _ => exact absurd hok Bool.false_ne_true
        | _ => exact absurd hok Bool.false_ne_true
      | _ => exact absurd hok Bool.false_ne_true
    | _ => exact absurd hok Bool.false_ne_true
termination_by structural e => e
end
end WM
set_option Elab.async false
set_option linter.all false
set_option maxRecDepth 100000
set_option maxHeartbeats 4000000
/-! WmU: the evaluator's word holds for statements and defs. -/
namespace WM
open PySem PySem.Spec PyProof.Rows L2 PySem.W PySem.SeqAt

section
variable (X : Cx)
def tStm (G : Hp) (bg : Option Addr) (ρ : Env) (r : Out × Env) : TS := fun D σ H => Rel X G bg ρ σ H ∧ match r.1 with
  | .nx => ∀ σ' H', Rel X G bg r.2 σ' H' → Ext H H' → D.nx σ' H'
  | .ret d => ∀ σ' v H', Rel X G bg r.2 σ' H' → Ext H H' → Dx X H' v d → D.rt v H'
def uS (s : S) : TS := fun D σ H => ∃ G bg ρ r, denS s ρ = some r ∧ tStm X G bg ρ r D σ H
def uSs (s : Ss) : TS := fun D σ H => ∃ G bg ρ r, denSs s ρ = some r ∧ tStm X G bg ρ r D σ H
end
section
variable {cc : CC} {X : Cx} {lv : Nat} {G : Hp} {bg : Option Addr} {ρ ρ1 ρ2 ρ3 ρ5 : Env} {a b c : Expr} {x y z : D} {pos : Pos} {xs ys : List D}
theorem sw_false {v : Expr} (h : notComp v = true) (t : Option Expr) (l : Nat) (env : PySem.Env) : swapsWith v t l env = pure false := by
  cases v <;> first | rfl | (simp [notComp] at h)
theorem stN (o : OkX cc X lv) {i : Nat} {n : Str} (h : stB cc i n = true) : X.N[i]? = some n ∧ Loc X.env.scope n ∧ (X.fn n = true ∨ X.env.scope.names.lookup n = some .local) := by
  unfold stB at h
  rw [Bool.and_eq_true, decide_eq_true_eq] at h
  obtain ⟨h1, h2⟩ := o.st n h.2
  exact ⟨by rw [o.n]; exact h.1, h1, h2⟩
theorem ps_name (o : OkX cc X lv) {i : Nat} {n : Str} {px : Pos} {v : Expr} {te : TE} (h : stB cc i n = true) (he : PE X v te) (hs : swapsWith v (some (.Name n px)) pos.line X.env = pure false) : PS X (.Assign [.Name n px] v pos) (tAsg te (gName i)) := by
  obtain ⟨h1, h2, h3⟩ := stN o h
  exact ps_set o.nd h1 h2 he hs h3
theorem pe_dnewX : PE X (.Dict [] [] pos) (fun σ H Q => ∀ p, H p = none → Q (.ref p) (upd H p (DX p #[]))) := ⟨fun pins s σ H Q I h =>
  wpAny_Dict_empty ⟨.ref s.heap.objs.size, _, I.laid (a := s.heap.objs.size) (o := DX s.heap.objs.size #[]) (t' := s.toks) (fun _ _ q => Heap.get?_push_of_some _ q) (Nat.le_refl _) (dx_empty s.heap I.big), rfl, h _ (I.hok.fresh (Nat.le_refl _))⟩⟩
theorem set_dictX (o : OkX cc X lv) : PSet X (fun d i v H Q => ∃ a es kvs k x, d = .ref a ∧ H a = some (DX a es) ∧ DnE X.w X.K H es.toList kvs ∧ KOk kvs ∧ fitsK kvs k = true ∧ kvs.length ≤ 100000 ∧ Dx X H i k ∧ Dx X H v x ∧ ∀ es', DnE X.w X.K (upd H a (DX a es')) es'.toList (dput kvs k x) → Q (upd H a (DX a es'))) := by
  rintro pins s σ H d i v dv iv u Q I rd ri rv ⟨a, es, kvs, k, x, rfl, h1, h2, h3, h4, h5, h6, h7, q⟩
  cases rd
  exact (dx_put I h1 h2 h3 h4 h5 h6 ri rv h7 lv o.room fun es' s' I' de => ⟨_, I', q es' de⟩).1
theorem pg_subX {oe ie : Expr} {to ti : TE} {t : TSet} (ho : PE X oe to) (hi : PE X ie ti) (hs : PSet X t) (hn : notSlice ie = true) : PG X (.Subscript oe ie pos) (gSub to ti t) := by
  refine pg_sub ho hi hs fun v => ?_
  cases ie <;> first | rfl | (simp [notSlice] at hn)
theorem sw_stores {ts : Expr} {v : Expr} (h : (match (generalizing := false) ts, v with | .Tuple _ _ _, .Tuple _ _ _ => false | .List _ _, .Tuple _ _ _ => false | _, _ => true) = true) (env : PySem.Env) : swappedStores [ts] v env = pure none := by
  unfold swappedStores
  split
  · rename_i q
    split at q <;> simp_all
  · rfl
theorem par_is (o : OkX cc X lv) {ts vs : List Expr} {k k2 : Nat} {p p2 : Pos} {r : Option (List Str)} (h : parB cc ts vs = some r) : swappedStores [.Tuple ts k p] (.Tuple vs k2 p2) X.env = pure r := by
  have hk : ∀ id, X.env.kindOf id = cc.sc.names.lookup id := fun id => by show X.env.scope.names.lookup id = _; rw [o.sc]
  unfold parB at h
  have hkind : cc.sc.kind = .function := by
    cases q : cc.sc.kind with
    | function => rfl
    | _ => rw [q] at h; simp at h
  have hb : X.env.blockKind = .function := by unfold PySem.Env.blockKind; rw [o.sc, hkind]; rfl
  rw [if_neg (by rw [hkind]; decide)] at h
  unfold swappedStores
  simp only [hk, hb, bne_self_eq_false, Bool.or_false]
  by_cases c1 : (!(ts.length == 2 || ts.length == 3) || vs.length != ts.length) = true
  · rw [if_pos c1] at h ⊢; cases h; rfl
  rw [if_neg c1] at h ⊢
  split at h
  · rename_i c2; cases h; exact if_pos c2
  · rename_i c2
    refine Eq.trans (if_neg c2) ?_
    simp only at h ⊢
    split at h
    · rename_i c3; cases h; exact if_pos c3
    · rename_i c3
      refine Eq.trans (if_neg c3) ?_
      split at h
      · rename_i c4; cases h; exact if_pos c4
      · rename_i c4
        refine Eq.trans (if_neg c4) ?_
        split at h
        · cases h
        · rename_i c5; cases h; exact if_neg c5
theorem two_store {i j : Nat} {vs : List V} {σ : L2.St} {H : Hp} (R : Rel X G bg ρ σ H) (d : Dxs X H vs xs) (h : storeAll ρ [i, j] xs = some ρ2) : ∃ v w, vs = [v, w] ∧ Rel X G bg ρ2 ((σ.set i (some v)).set j (some w)) H := by
  cases d with
  | nil => cases h
  | cons d1 d =>
    cases d with
    | nil => cases h
    | cons d2 d =>
      cases d with
      | nil => cases h; exact ⟨_, _, rfl, (R.store i d1).store j d2⟩
      | cons _ _ => cases h
theorem three_store {i j l : Nat} {vs : List V} {σ : L2.St} {H : Hp} (R : Rel X G bg ρ σ H) (d : Dxs X H vs xs) (h : storeAll ρ [i, j, l] xs = some ρ2) : ∃ u v w, vs = [u, v, w] ∧ Rel X G bg ρ2 (((σ.set i (some u)).set j (some v)).set l (some w)) H := by
  cases d with
  | nil => cases h
  | cons d1 d =>
    cases d with
    | nil => cases h
    | cons d2 d =>
      cases d with
      | nil => cases h
      | cons d3 d =>
        cases d with
        | nil => cases h; exact ⟨_, _, _, rfl, ((R.store i d1).store j d2).store l d3⟩
        | cons _ _ => cases h
end
end WM
set_option Elab.async false
set_option linter.all false
set_option maxRecDepth 100000
set_option maxHeartbeats 1000000
namespace WM
open PySem PySem.Spec PyProof.Rows L2 PySem.W PySem.SeqAt
section
variable {cc : CC} {X : Cx} {lv : Nat} {G : Hp} {bg : Option Addr} {ρ ρ1 ρ2 ρ3 ρ5 : Env} {a b c : Expr} {x y z : D} {pos : Pos} {xs ys : List D}
/-- a, b = x, y stored from the right -/
theorem s_par (o : OkX cc X lv) {is : List Nat} {es : Es} {ts vs : List Expr} {k k2 : Nat} {p p2 : Pos} (hg : okTg.okTgs cc is ts = true) (hv : PA X vs (uA X es)) (hl : vs.length = ts.length) (hloc : ts.all (isLocalB cc) = true) (hp : parB cc ts vs = some (some (ts.map nameOf))) (hnd : is.Nodup) :
    PS X (.Assign [.Tuple ts k p] (.Tuple vs k2 p2) pos) (uS X (.par is es)) := by
  have hw := par_is o (k := k) (k2 := k2) (p := p) (p2 := p2) hp
  have hlen : ts.length = 2 ∨ ts.length = 3 := by
    unfold parB at hp
    have hkind : cc.sc.kind = .function := by
      cases q : cc.sc.kind with
      | function => rfl
      | _ => rw [q] at hp; simp at hp
    rw [if_neg (by rw [hkind]; decide)] at hp
    by_cases c1 : (!(ts.length == 2 || ts.length == 3) || vs.length != ts.length) = true
    · rw [if_pos c1] at hp; simp at hp
    clear hp hw
    simp only [Bool.or_eq_true, Bool.not_eq_true', not_or, Bool.not_eq_false, beq_iff_eq] at c1
    exact c1.1
  have loc : ∀ {e : Expr} {n : Str} {q : Pos}, e = .Name n q → isLocalB cc e = true → X.env.scope.names.lookup n = some .local := fun {e n q} he h => by rw [o.sc]; subst he; exact of_decide_eq_true h
  have shape : ∀ (is : List Nat) (ts : List Expr), okTg.okTgs cc is ts = true → is.length = ts.length ∧ ∀ t ∈ ts, ∃ n q, t = Expr.Name n q := by
    intro is
    induction is with
    | nil => intro ts h; cases ts with | nil => exact ⟨rfl, fun _ h => nomatch h⟩ | cons _ _ => simp [okTg.okTgs] at h
    | cons i is ih =>
      intro ts h
      cases ts with
      | nil => simp [okTg.okTgs] at h
      | cons t ts =>
        cases t with
        | Name n q =>
          simp only [okTg.okTgs, Bool.and_eq_true] at h
          obtain ⟨a1, a2⟩ := ih ts h.2
          exact ⟨by rw [List.length_cons, List.length_cons, a1], fun t ht => by rcases List.mem_cons.mp ht with rfl | ht; exact ⟨n, q, rfl⟩; exact a2 t ht⟩
        | _ => simp [okTg.okTgs] at h
  obtain ⟨sl, sn⟩ := shape is ts hg
  rcases hlen with hlen | hlen
  · obtain ⟨t1, t2, rfl⟩ : ∃ t1 t2, ts = [t1, t2] := by
      match ts, hlen with
      | [t1, t2], _ => exact ⟨t1, t2, rfl⟩
    obtain ⟨v1, v2, rfl⟩ : ∃ t1 t2, vs = [t1, t2] := by
      match vs, hl with
      | [t1, t2], _ => exact ⟨t1, t2, rfl⟩
    obtain ⟨i, j, rfl⟩ : ∃ t1 t2, is = [t1, t2] := by
      match is, sl with
      | [t1, t2], _ => exact ⟨t1, t2, rfl⟩
    obtain ⟨n1, q1, rfl⟩ := sn t1 (by simp)
    obtain ⟨n2, q2, rfl⟩ := sn t2 (by simp)
    simp only [okTg.okTgs, Bool.and_eq_true] at hg
    simp only [List.all_cons, List.all_nil, Bool.and_eq_true] at hloc
    have hij : i ≠ j := by simp at hnd; exact hnd
    exact (ps_par o.calm o.nd (stN o hg.1).1 (stN o hg.2.1).1 hij (loc rfl hloc.1) (loc rfl hloc.2.1) hv hw rfl).mono fun D σ H ⟨G, bg, ρ, r, hd, R, q⟩ => by
      simp only [denS] at hd
      obtain ⟨⟨xs, ρ1⟩, h3, hd⟩ := Option.bind_eq_some_iff.mp hd
      obtain ⟨ρ2, h4, hd⟩ := Option.bind_eq_some_iff.mp hd
      cases hd
      refine ⟨G, bg, ρ, xs, ρ1, h3, R, fun us H1 R1 e1 d1 => ?_⟩
      obtain ⟨v, w, e, R2⟩ := two_store R1 d1 h4
      exact ⟨v, w, e, q _ _ R2 e1⟩
  · obtain ⟨t1, t2, t3, rfl⟩ : ∃ t1 t2 t3, ts = [t1, t2, t3] := by
      match ts, hlen with
      | [t1, t2, t3], _ => exact ⟨t1, t2, t3, rfl⟩
    obtain ⟨v1, v2, v3, rfl⟩ : ∃ t1 t2 t3, vs = [t1, t2, t3] := by
      match vs, hl with
      | [t1, t2, t3], _ => exact ⟨t1, t2, t3, rfl⟩
    obtain ⟨i, j, l, rfl⟩ : ∃ t1 t2 t3, is = [t1, t2, t3] := by
      match is, sl with
      | [t1, t2, t3], _ => exact ⟨t1, t2, t3, rfl⟩
    obtain ⟨n1, q1, rfl⟩ := sn t1 (by simp)
    obtain ⟨n2, q2, rfl⟩ := sn t2 (by simp)
    obtain ⟨n3, q3, rfl⟩ := sn t3 (by simp)
    simp only [okTg.okTgs, Bool.and_eq_true] at hg
    simp only [List.all_cons, List.all_nil, Bool.and_eq_true] at hloc
    have hij : i ≠ j ∧ i ≠ l ∧ j ≠ l := by simp at hnd; exact ⟨hnd.1.1, hnd.1.2, hnd.2⟩
    exact (ps_par3 o.calm o.nd (stN o hg.1).1 (stN o hg.2.1).1 (stN o hg.2.2.1).1 hij.1 hij.2.1 hij.2.2 (loc rfl hloc.1) (loc rfl hloc.2.1) (loc rfl hloc.2.2.1) hv hw rfl).mono fun D σ H ⟨G, bg, ρ, r, hd, R, q⟩ => by
      simp only [denS] at hd
      obtain ⟨⟨xs, ρ1⟩, h3, hd⟩ := Option.bind_eq_some_iff.mp hd
      obtain ⟨ρ2, h4, hd⟩ := Option.bind_eq_some_iff.mp hd
      cases hd
      refine ⟨G, bg, ρ, xs, ρ1, h3, R, fun us H1 R1 e1 d1 => ?_⟩
      obtain ⟨u, v, w, e, R2⟩ := three_store R1 d1 h4
      exact ⟨u, v, w, e, q _ _ R2 e1⟩
end
end WM
set_option Elab.async false
set_option linter.all false
set_option maxRecDepth 100000
set_option maxHeartbeats 4000000
/-! WmV: the evaluator's word holds for statements and defs. -/
namespace WM
open PySem PySem.Spec PyProof.Rows L2 PySem.W PySem.SeqAt

section
variable {cc : CC} {X : Cx} {lv : Nat} {G : Hp} {bg : Option Addr} {ρ ρ1 ρ2 ρ3 ρ5 : Env} {a b c : Expr} {x y z : D} {pos : Pos} {xs ys : List D}
/-- a new list or dict is given to a name, whatever makes it -/
theorem sF {e : E} (o : OkX cc X lv) {a : Expr} (hok : okE cc e a = true) (wf : wfE (HasP X lv) (HasB X lv) (HasG X) e) (h : ∃ es, e = .lst es) : PE X a (uF X e) := by
  obtain ⟨es, rfl⟩ := h
  cases a with
  | List as p =>
    simp only [okE, Bool.and_eq_true, decide_eq_true_eq] at hok
    obtain ⟨hl, he⟩ := hok
    refine to_uF fun G bg ρ ρ' d hd => ?_
    simp only [den] at hd
    obtain ⟨⟨xs, ρ1⟩, h1, hd⟩ := Option.bind_eq_some_iff.mp hd
    cases hd
    exact s_lst (of_uA (sEs es as o he wf) h1) (by rw [denEs_len es as he h1]; omega)
  | _ => exact absurd hok Bool.false_ne_true
theorem lst_isL {es : Es} : ∀ ρ d ρ', den (.lst es) ρ = some (d, ρ') → ∃ xs, d = .list xs := by
  intro ρ d ρ' hd
  simp only [den] at hd
  obtain ⟨⟨v, ρ1⟩, h1, hd⟩ := Option.bind_eq_some_iff.mp hd
  cases hd; exact ⟨_, rfl⟩
theorem asgL {e : E} {i : Nat} (hl : ∀ ρ d ρ', den e ρ = some (d, ρ') → ∃ xs, d = .list xs) {st : Stmt} {te : TE} (hp : PS X st (tAsg te (gName i))) (ht : ∀ G bg ρ ys ρ' σ H Q, den e ρ = some (.list ys, ρ') → tF X G bg ρ ys ρ' σ H Q → te σ H Q) : PS X st (uS X (.asgO i e)) :=
  hp.mono fun D σ H ⟨G, bg, ρ, r, hd, R, q⟩ => by
    simp only [denS] at hd
    obtain ⟨⟨d, ρ1⟩, h3, hd⟩ := Option.bind_eq_some_iff.mp hd
    obtain ⟨ys, rfl⟩ := hl _ _ _ h3
    cases hd
    exact ht G bg ρ ys ρ1 σ H _ h3 (give_ok R q)
theorem asgDx {e : E} {i : Nat} (hl : ∀ ρ d ρ', den e ρ = some (d, ρ') → ∃ xs, d = .dict xs) {st : Stmt} {te : TE} (hp : PS X st (tAsg te (gName i))) (ht : ∀ G bg ρ ys ρ' σ H Q, den e ρ = some (.dict ys, ρ') → tFD X G bg ρ ys ρ' σ H Q → te σ H Q) : PS X st (uS X (.asgO i e)) :=
  hp.mono fun D σ H ⟨G, bg, ρ, r, hd, R, q⟩ => by
    simp only [denS] at hd
    obtain ⟨⟨d, ρ1⟩, h3, hd⟩ := Option.bind_eq_some_iff.mp hd
    obtain ⟨ys, rfl⟩ := hl _ _ _ h3
    cases hd
    exact ht G bg ρ ys ρ1 σ H _ h3 (giveD_ok R q)
theorem kindB {cc : CC} (h : (match cc.sc.kind with | .function => true | _ => false) = true) : cc.sc.kind = .function := by
  split at h
  · assumption
  · cases h
theorem sw_local {v : Expr} {n : Str} {l : Nat} (o : OkX cc X lv) (h : swapB cc v n l = true) : X.env.scope.names.lookup n = some .local := by
  unfold swapB at h
  simp only [Bool.and_eq_true, decide_eq_true_eq] at h
  rw [o.sc]; exact h.1.2
theorem asg_lc (o : OkX cc X lv) {i : Nat} {n : Str} {px : Pos} {e : E} {g : Tg} {it : It} {ifs : Ts} {own : List (Str × Nat)} {v : Expr} (hs : stB cc i n = true) (hk : (match cc.sc.kind with | .function => true | _ => false) = true) (hok : okE cc (.lc e g it ifs own) v = true) (wf : wfE (HasP X lv) (HasB X lv) (HasG X) (.lc e g it ifs own)) :
    PS X (.Assign [.Name n px] v pos) (uS X (.asgO i (.lc e g it ifs own))) := by
  cases v with
  | ListComp el gs scope p =>
    cases gs with
    | nil => exact absurd hok Bool.false_ne_true
    | cons gc gs =>
      obtain ⟨tg, iter, fs, z⟩ := gc
      cases gs with
      | cons _ _ => exact absurd hok Bool.false_ne_true
      | nil =>
        obtain ⟨rfl, hb, hn, hg, h1, h2, h3⟩ := lcB_of hok
        have ok := blkOk_by hb
        have nd : cc.N.Nodup := o.n ▸ o.nd
        have ok' : BlkOk X.N X.env.scope scope own := by rw [o.n, o.sc]; exact ok
        have hi := sIt it iter tg o h1 wf.1
        have ht : ∀ (s : Shared) (H : Hp) (C : Addr) (cl : List (Str × Addr)) (fp : List Addr), PTs (X.blk s H scope (compEnvC scope cl C X.env) fp) fs (uTs X ifs) := fun s H C cl fp => by have := sTs ifs fs (o.block (s := s) (H := H) (C := C) (cl := cl) (fp := fp)) h2 wf.2.1; rw [uTs_blk] at this; exact this
        have he : ∀ (s : Shared) (H : Hp) (C : Addr) (cl : List (Str × Addr)) (fp : List Addr), PE (X.blk s H scope (compEnvC scope cl C X.env) fp) el (uE X e) := fun s H C cl fp => by have := sE e el (o.block (s := s) (H := H) (C := C) (cl := cl) (fp := fp)) h3 wf.2.2; rw [uE_blk] at this; exact this
        have sw := sw_is o hk (v := .ListComp el [⟨tg, iter, fs, 0⟩] scope p) (y := n) (py := px) (l := pos.line) (fun _ => rfl)
        cases hsw : swapB cc (.ListComp el [⟨tg, iter, fs, 0⟩] scope p) n px.line with
        | true =>
          rw [hsw] at sw
          exact asgL lc_isL (ps_setLc o.calm o.nd (stN o hs).1 (sw_local o hsw) sw hi ok' (fun s H C cl fp => pg_tg o.block hg) ht he (fold_of hn X.env)) fun G bg ρ ys ρ' σ H Q hd hq => lc_ok (tg_own nd ok hg) hd hq
        | false =>
          rw [hsw] at sw
          exact asgL lc_isL (ps_name o hs (s_lc o hb hn hg hi ht he) sw) fun G bg ρ ys ρ' σ H Q hd hq => ⟨G, bg, ρ, ys, ρ', hd, hq⟩
  | _ => exact absurd hok Bool.false_ne_true
theorem asg_lc2 (o : OkX cc X lv) {i : Nat} {n : Str} {px : Pos} {e : E} {g g2 : Tg} {it it2 : It} {ifs2 : Ts} {own : List (Str × Nat)} {own2 : List Nat} {v : Expr} (hs : stB cc i n = true) (hk : (match cc.sc.kind with | .function => true | _ => false) = true) (hok : okE cc (.lc2 e g it g2 it2 ifs2 own own2) v = true) (wf : wfE (HasP X lv) (HasB X lv) (HasG X) (.lc2 e g it g2 it2 ifs2 own own2)) :
    PS X (.Assign [.Name n px] v pos) (uS X (.asgO i (.lc2 e g it g2 it2 ifs2 own own2))) := by
  cases v with
  | ListComp el gs scope p =>
    cases gs with
    | nil => exact absurd hok Bool.false_ne_true
    | cons gc gs =>
      obtain ⟨tg, iter, fs, z⟩ := gc
      cases gs with
      | nil => exact absurd hok Bool.false_ne_true
      | cons gc2 gs =>
        obtain ⟨tg2, iter2, fs2, z2⟩ := gc2
        cases gs with
        | cons _ _ => exact absurd hok Bool.false_ne_true
        | nil =>
          obtain ⟨rfl, rfl, rfl, hb, hn, hn2, hv, hv2, hg, h1, hg2, h4, h2, h3⟩ := lc2B_of hok
          have ok := blkOk_by hb
          have nd : cc.N.Nodup := o.n ▸ o.nd
          have ok' : BlkOk X.N X.env.scope scope own := by rw [o.n, o.sc]; exact ok
          have hi := sIt it iter tg o h1 wf.1
          have hi2 : ∀ (s : Shared) (H : Hp) (C : Addr) (cl : List (Str × Addr)) (fp : List Addr), PI (X.blk s H scope (compEnvC scope cl C X.env) fp) tg2 iter2 (uI X it2) := fun s H C cl fp => by have := sIt it2 iter2 tg2 (o.block (s := s) (H := H) (C := C) (cl := cl) (fp := fp)) h4 wf.2.1; rw [uI_blk] at this; exact this
          have ht : ∀ (s : Shared) (H : Hp) (C : Addr) (cl : List (Str × Addr)) (fp : List Addr), PTs (X.blk s H scope (compEnvC scope cl C X.env) fp) fs2 (uTs X ifs2) := fun s H C cl fp => by have := sTs ifs2 fs2 (o.block (s := s) (H := H) (C := C) (cl := cl) (fp := fp)) h2 wf.2.2.1; rw [uTs_blk] at this; exact this
          have he : ∀ (s : Shared) (H : Hp) (C : Addr) (cl : List (Str × Addr)) (fp : List Addr), PE (X.blk s H scope (compEnvC scope cl C X.env) fp) el (uE X e) := fun s H C cl fp => by have := sE e el (o.block (s := s) (H := H) (C := C) (cl := cl) (fp := fp)) h3 wf.2.2.2; rw [uE_blk] at this; exact this
          have sw := sw_is o hk (v := .ListComp el [⟨tg, iter, [], 0⟩, ⟨tg2, iter2, fs2, 0⟩] scope p) (y := n) (py := px) (l := pos.line) (fun _ => rfl)
          cases hsw : swapB cc (.ListComp el [⟨tg, iter, [], 0⟩, ⟨tg2, iter2, fs2, 0⟩] scope p) n px.line with
          | true =>
            rw [hsw] at sw
            exact asgL lc2_isL (ps_setLc2 o.calm o.nd (stN o hs).1 (sw_local o hsw) sw hi ok' hv (fun s H C cl fp => pg_tg o.block hg) (fun s H C cl fp => pts_nil) hi2 (fun s H C cl fp => pg_tg o.block hg2) ht he (fold_of hn X.env) (fun env x => fold_of hn2 env x)) fun G bg ρ ys ρ' σ H Q hd hq => lc2_ok (tg_own nd ok hg) hv2 hv hd hq
          | false =>
            rw [hsw] at sw
            exact asgL lc2_isL (ps_name o hs (s_lc2 o hb hn hn2 hv hg hg2 hv2 hi hi2 ht he) sw) fun G bg ρ ys ρ' σ H Q hd hq => ⟨G, bg, ρ, ys, ρ', hd, hq⟩
  | _ => exact absurd hok Bool.false_ne_true
theorem asg_dc (o : OkX cc X lv) {i : Nat} {n : Str} {px : Pos} {k v : E} {g : Tg} {it : It} {own : List (Str × Nat)} {w : Expr} (hs : stB cc i n = true) (hk : (match cc.sc.kind with | .function => true | _ => false) = true) (hok : okE cc (.dc k v g it own) w = true) (wf : wfE (HasP X lv) (HasB X lv) (HasG X) (.dc k v g it own)) :
    PS X (.Assign [.Name n px] w pos) (uS X (.asgO i (.dc k v g it own))) := by
  cases w with
  | DictComp kx vx gs scope p =>
    cases gs with
    | nil => exact absurd hok Bool.false_ne_true
    | cons gc gs =>
      obtain ⟨tg, iter, fs, z⟩ := gc
      cases gs with
      | cons _ _ => exact absurd hok Bool.false_ne_true
      | nil =>
        obtain ⟨rfl, rfl, hb, hn, hg, h1, h2, h3⟩ := dcB_of hok
        have ok := blkOk_by hb
        have nd : cc.N.Nodup := o.n ▸ o.nd
        have ok' : BlkOk X.N X.env.scope scope own := by rw [o.n, o.sc]; exact ok
        have hi := sIt it iter tg o h1 wf.1
        have ht : ∀ (s : Shared) (H : Hp) (C : Addr) (cl : List (Str × Addr)) (fp : List Addr), PE (X.blk s H scope (compEnvC scope cl C X.env) fp) kx (uE X k) := fun s H C cl fp => by have := sE k kx (o.block (s := s) (H := H) (C := C) (cl := cl) (fp := fp)) h2 wf.2.1; rw [uE_blk] at this; exact this
        have he : ∀ (s : Shared) (H : Hp) (C : Addr) (cl : List (Str × Addr)) (fp : List Addr), PE (X.blk s H scope (compEnvC scope cl C X.env) fp) vx (uE X v) := fun s H C cl fp => by have := sE v vx (o.block (s := s) (H := H) (C := C) (cl := cl) (fp := fp)) h3 wf.2.2; rw [uE_blk] at this; exact this
        have sw := sw_is o hk (v := .DictComp kx vx [⟨tg, iter, [], 0⟩] scope p) (y := n) (py := px) (l := pos.line) (fun _ => rfl)
        cases hsw : swapB cc (.DictComp kx vx [⟨tg, iter, [], 0⟩] scope p) n px.line with
        | true =>
          rw [hsw] at sw
          exact asgDx dc_isD (ps_setDcX o (stN o hs).1 (sw_local o hsw) sw hi ok' (fun s H C cl fp => pg_tg o.block hg) ht he (fold_of hn X.env)) fun G bg ρ ys ρ' σ H Q hd hq => dc_ok (tg_own nd ok hg) hd hq
        | false =>
          rw [hsw] at sw
          exact asgDx dc_isD (ps_name o hs (s_dc o hb hn hg hi ht he) sw) fun G bg ρ ys ρ' σ H Q hd hq => ⟨G, bg, ρ, ys, ρ', hd, hq⟩
  | _ => exact absurd hok Bool.false_ne_true
theorem isOl_at {i : Nat} (h : isOl ρ[i]? = true) {σ : L2.St} {H : Hp} (R : Rel X G bg ρ σ H) : ∃ c us, σ[i]? = some (some (.ref c)) ∧ H c = some (.lst us) := by
  cases e : ρ[i]? with
  | none => rw [e] at h; cases h
  | some s =>
    rw [e] at h
    cases s with
    | ol kvs => obtain ⟨c, es, h1, h2, _⟩ := R.at_ i _ e; exact ⟨c, es, h1, h2⟩
    | _ => cases h
theorem s_app (o : OkX cc X lv) {i : Nat} {n : Str} {e : E} {y : Expr} {q ap cp : Pos} (hn : nmB cc i n = true) (hl : (ap.endLine == cp.line) = true) (hs : notStar y = true) (hy : PE X y (uE X e)) : PS X (.Expr (.Call (.Attribute (.Name n q) "append" ap) [y] [] cp) pos) (uS X (.app i e)) :=
  (ps_expr (pe_bm PySem.F.plainAttrs_list PySem.F.slot_list_append PySem.F.type_list_append mt_append (pe_slot o hn) (pa_cons hy pa_nil (star_of' hs [] X.env)) (base_of rfl _ _ _) (hfew_of (fun e he => by simp only [List.mem_singleton] at he; rw [he]; exact hs) (show 1 < 30 by decide)) hl (star_of' hs [] X.env) rfl) rfl).mono fun D σ H ⟨G, bg, ρ, r, hd, R, q⟩ => by
    simp only [denS] at hd
    split at hd
    case isFalse => cases hd
    rename_i hi
    obtain ⟨⟨d, ρ1⟩, h3, hd⟩ := Option.bind_eq_some_iff.mp hd
    split at hd
    case h_2 => cases hd
    rename_i xs e1
    split at hd
    case isFalse => cases hd
    rename_i hlen
    cases hd
    obtain ⟨c, us, c1, c2⟩ := isOl_at hi R
    refine ⟨.ref c, c1, lst_tyV (.inl c2), G, bg, ρ, d, ρ1, h3, R, fun v H1 R1 e2 d1 => ?_⟩
    obtain ⟨c', ws, k1, k2, k3⟩ := R1.at_ i _ e1
    rw [c1] at k1; cases k1
    have hz : ws.length < sizeLine := by rw [k3.length]; exact lt_line (of_decide_eq_true hlen)
    have E := Ext.lst (o := .lst (ws ++ [v])) k2
    refine ⟨c, ws, v, rfl, rfl, k2, hz, q σ _ (R1.write (sv := .ol (xs ++ [d])) (by rw [e1]; rfl) c1 E (fun b o' hb hb' => by rw [upd_ne hb]; exact hb') ⟨c, _, rfl, upd_same, (k3.ext E).append (.cons (d1.ext E) .nil)⟩ (fun _ => by rw [e1]; rfl) (fun z => nomatch z) (fun _ => ⟨_, upd_same⟩)) (e2.trans E)⟩
theorem sw_sole {v : Expr} (h : notComp v = true) (t : Expr) (l : Nat) (env : PySem.Env) : swapsWithSole [t] v l env = pure false := sw_false h _ _ _
theorem asg_each_sub {oe ie : Expr} {env : PySem.Env} : (assignEach [.Subscript oe ie pos] env).map (·.2) = [assign (.Subscript oe ie pos) env] := rfl
theorem s_put (o : OkX cc X lv) {i : Nat} {n : Str} {k v : E} {y w : Expr} {q p2 : Pos} (hn : nmB cc i n = true) (hs : notSlice y = true) (hc : notComp w = true) (hk : PE X y (uE X k)) (hv : PE X w (uE X v)) : PS X (.Assign [.Subscript (.Name n q) y p2] w pos) (uS X (.put i k v)) :=
  (ps_asg hv (pg_subX (pe_slot o hn) hk (set_dictX o) hs) (sw_sole hc _ _ _) (sw_stores (by cases w <;> rfl) _) asg_each_sub).mono fun D σ H ⟨G, bg, ρ, r, hd, R, qq⟩ => by
    simp only [denS] at hd
    obtain ⟨⟨vd, ρ1⟩, h3, hd⟩ := Option.bind_eq_some_iff.mp hd
    split at hd
    case isFalse => cases hd
    rename_i hi
    obtain ⟨⟨kd, ρ2⟩, h4, hd⟩ := Option.bind_eq_some_iff.mp hd
    split at hd
    case h_2 => cases hd
    rename_i kvs e1
    split at hd
    case isFalse => cases hd
    rename_i hf
    rw [Bool.and_eq_true, decide_eq_true_eq] at hf
    cases hd
    refine ⟨G, bg, ρ, vd, ρ1, h3, R, fun u H1 R1 e2 d1 => ?_⟩
    obtain ⟨c, oo, c1, c2, _⟩ := R1.own_at hi
    refine ⟨.ref c, c1, G, bg, ρ1, kd, ρ2, h4, R1, fun t H2 R2 e3 d2 => ?_⟩
    obtain ⟨c', es, k1, k2, k3, k4⟩ := R2.at_ i _ e1
    rw [c1] at k1; cases k1
    refine ⟨c, es, kvs, kd, vd, rfl, k2, k3, k4, hf.1, hf.2, d2, d1.ext e3, fun es' de => ?_⟩
    have E := Ext.dx (o := DX c es') k2
    exact qq σ _ (R2.write (sv := .od (dput kvs kd vd)) (by rw [e1]; rfl) c1 E (fun b o' hb hb' => by rw [upd_ne hb]; exact hb') ⟨c, es', rfl, upd_same, de, k4.put hf.1 hf.2⟩ (fun _ => by rw [e1]; rfl) (fun z => nomatch z) (fun z => absurd (R2.fresh i c (by rw [e1]; rfl) c1) (R2.bgG c z))) (e2.trans (e3.trans E))
theorem s_setB (o : OkX cc X lv) {i : Nat} {n : Str} {k v : E} {y w : Expr} {q p2 : Pos} (hn : nmB cc i n = true) (hs : notSlice y = true) (hc : notComp w = true) (hk : PE X y (uE X k)) (hv : PE X w (uE X v)) : PS X (.Assign [.Subscript (.Name n q) y p2] w pos) (uS X (.setB i k v)) :=
  (ps_asg hv (pg_subX (pe_slot o hn) hk set_list hs) (sw_sole hc _ _ _) (sw_stores (by cases w <;> rfl) _) asg_each_sub).mono fun D σ H ⟨G, bg, ρ, r, hd, R, qq⟩ => by
    simp only [denS] at hd
    obtain ⟨⟨vd, ρ1⟩, h3, hd⟩ := Option.bind_eq_some_iff.mp hd
    split at hd
    case isFalse => cases hd
    rename_i hi
    obtain ⟨⟨kd, ρ2⟩, h4, hd⟩ := Option.bind_eq_some_iff.mp hd
    obtain ⟨ix, h5, hd⟩ := Option.bind_eq_some_iff.mp hd
    have h5 : kd = .int ix := asInt_eq h5
    split at hd
    case h_2 => cases hd
    rename_i xs e1
    split at hd
    case isFalse => cases hd
    rename_i hf
    cases hd
    refine ⟨G, bg, ρ, vd, ρ1, h3, R, fun u H1 R1 e2 d1 => ?_⟩
    obtain ⟨c, oo, c1, c2, _⟩ := R1.own_at hi
    refine ⟨.ref c, c1, G, bg, ρ1, kd, ρ2, h4, R1, fun t H2 R2 e3 d2 => ?_⟩
    obtain ⟨c', us, k1, k2, k3⟩ := R2.at_ i _ e1
    rw [c1] at k1; cases k1
    rw [h5] at d2
    have E := Ext.lst (o := .lst (us.set ix.toNat u)) k2
    refine ⟨c, us, ix, ix.toNat, rfl, int_of d2, k2, ?_, ?_⟩
    · unfold ixN
      rw [if_pos hf.1, if_pos (by rw [k3.length]; omega)]
    · exact qq σ _ (R2.write (sv := .bo (xs.set ix.toNat vd)) (by rw [e1]; rfl) c1 E (fun b o' hb hb' => by rw [upd_ne hb]; exact hb') ⟨c, _, rfl, upd_same, ((k3.set (d1.ext e3) _).ext E)⟩ (fun z => nomatch z) (fun _ => by rw [e1]; rfl) (fun _ => ⟨_, upd_same⟩)) (e2.trans (e3.trans E))
/-! loops -/
def lpF (g : Tg) (b : Ss) (kill : List Nat) : D → Env → Option (Out × Env) := fun x ρ => (bindT ρ g x).bind fun ρ2 => (denSs b ρ2).bind fun (o, ρ3) => some (o, wipeE ρ3 kill)
theorem loop_ok {g : Tg} {it : It} {b : Ss} {kill : List Nat} {D : Ends} {σ : L2.St} {H : Hp} (h : uS X (.loop g it b kill) D σ H) : tFor (uI X it) (tgT X.K g) (uSs X b) D σ H := by
  obtain ⟨G, bg, ρ, r, hd, R, q⟩ := h
  simp only [denS] at hd
  obtain ⟨⟨xs, ρ1⟩, h1, hd⟩ := Option.bind_eq_some_iff.mp hd
  have hd : loopGo (lpF g b kill) xs (wipeE ρ1 kill) = some r := hd
  refine ⟨G, bg, ρ, xs, ρ1, h1, R, fun J H1 R1 e1 run => ?_⟩
  refine ⟨fun i m σ' H' => m = xs.length - i ∧ i ≤ xs.length ∧ ∃ ρi, loopGo (lpF g b kill) (xs.drop i) ρi = some r ∧ Rel X G bg ρi σ' H' ∧ Ext H1 H', ⟨_, rfl, Nat.zero_le _, _, hd, R1.wipe kill, Ext.refl _⟩, ?_⟩
  rintro i m σ' H' ⟨rfl, hi, ρi, g1, g2, g3⟩
  by_cases hlt : i < xs.length
  · refine .inr ⟨run.go i H' g3 hlt, fun σ5 H5 => i + 1 ≤ xs.length ∧ ∃ ρi, loopGo (lpF g b kill) (xs.drop (i + 1)) ρi = some r ∧ Rel X G bg ρi σ5 H5 ∧ Ext H1 H5, ?_, ?_⟩
    · rintro σ5 H5 ⟨hi5, w⟩
      exact ⟨xs.length - (i + 1), by omega, rfl, hi5, w⟩
    · intro v H2 hy
      obtain ⟨k, d, hd1, hd2⟩ := run.yld i H' v H2 g3 hy hlt
      rw [drop_step hd1] at g1
      simp only [loopGo] at g1
      obtain ⟨⟨oo, ρa⟩, f1, g1⟩ := Option.bind_eq_some_iff.mp g1
      unfold lpF at f1
      obtain ⟨ρ2, b1, f1⟩ := Option.bind_eq_some_iff.mp f1
      obtain ⟨⟨o2, ρ3⟩, b2, f1⟩ := Option.bind_eq_some_iff.mp f1
      cases f1
      refine tg_ok (g2.keep k) hd2 b1 fun σ2 R2 t => ⟨G, bg, ρ2, (oo, ρ3), b2, R2, ?_⟩
      cases oo with
      | nx =>
        intro σ5 H5 R5 e5
        exact ⟨hlt, _, g1, R5.wipe kill, g3.trans ((Ext.same k).trans e5)⟩
      | ret d2 =>
        cases g1
        intro σ5 w H5 R5 e5 d5
        exact q σ5 w H5 (R5.wipe kill) (e1.trans (g3.trans ((Ext.same k).trans e5))) d5
  · have ei : i = xs.length := by omega
    subst ei
    rw [List.drop_length] at g1
    cases g1
    exact .inl ⟨run.stop H' g3, q σ' H' g2 (e1.trans g3)⟩
end

mutual
theorem sS {cc : CC} {X : Cx} {lv : Nat} : ∀ (s : S) (st : Stmt), OkX cc X lv → okS cc s st = true → wfS (HasP X lv) (HasB X lv) (HasG X) s → PS X st (uS X s)
  | .asg i e, a, o, hok, wf => by
    cases a with
    | Assign tgs v p =>
      cases tgs with
      | cons tg tgs =>
        cases tg with
        | Name n px =>
          cases tgs with
          | nil  =>
            simp only [okS, Bool.and_eq_true, decide_eq_true_eq] at hok
            obtain ⟨⟨h0, h1⟩, h2⟩ := hok
            exact (ps_name o h0 (sE e v o h2 wf) (sw_false h1 _ _ _)).mono fun D σ H ⟨G, bg, ρ, r, hd, R, q⟩ => by
              simp only [denS] at hd
              obtain ⟨⟨d, ρ1⟩, h3, hd⟩ := Option.bind_eq_some_iff.mp hd
              cases hd
              exact ⟨G, bg, ρ, d, ρ1, h3, R, fun u H1 R1 e1 d1 => q _ _ (R1.store i d1) e1⟩
          | _ => exact absurd hok Bool.false_ne_true
        | _ => exact absurd hok Bool.false_ne_true
      | _ => exact absurd hok Bool.false_ne_true
    | _ => exact absurd hok Bool.false_ne_true
  | .asgO i e, a, o, hok, wf => by
    cases a with
    | Assign tgs v p =>
      cases tgs with
      | cons tg tgs =>
        cases tg with
        | Name n px =>
          cases tgs with
          | nil  =>
            have hok : (stB cc i n && okE cc e v && (match cc.sc.kind with | .function => true | _ => false) && (match (generalizing := false) e with
                  | .lst _ => true
                  | .lc .. => true
                  | .lc2 .. => true
                  | .dc .. => true
                  | _ => false)) = true := hok
            rw [Bool.and_eq_true, Bool.and_eq_true, Bool.and_eq_true] at hok
            obtain ⟨⟨⟨h0, h1⟩, h2⟩, h3⟩ := hok
            cases e with
            | lst es => 
              have hc : notComp v = true := by cases v <;> first | rfl | exact absurd h1 Bool.false_ne_true
              exact asgL lst_isL (ps_name o h0 (sF o h1 wf ⟨es, rfl⟩) (sw_false hc _ _ _)) fun G bg ρ ys ρ' σ H Q hd hq => ⟨G, bg, ρ, ys, ρ', hd, hq⟩
            | lc e g it ifs own => exact asg_lc o h0 h2 h1 wf
            | lc2 e g it g2 it2 ifs2 own own2 => exact asg_lc2 o h0 h2 h1 wf
            | dc k v g it own => exact asg_dc o h0 h2 h1 wf
            | _ => cases h3
          | _ => exact absurd hok Bool.false_ne_true
        | _ => exact absurd hok Bool.false_ne_true
      | _ => exact absurd hok Bool.false_ne_true
    | _ => exact absurd hok Bool.false_ne_true
  | .asgD i, a, o, hok, wf => by
    cases a with
    | Assign tgs v p =>
      cases tgs with
      | cons tg tgs =>
        cases tg with
        | Name n px =>
          cases tgs with
          | nil  =>
            cases v with
            | Dict ks vs q =>
              cases ks with
              | nil  =>
                cases vs with
                | nil  =>
                  have h0 : stB cc i n = true := hok
                  exact (ps_name o h0 pe_dnewX (sw_false rfl _ _ _)).mono fun D σ H ⟨G, bg, ρ, r, hd, R, q⟩ => by
                    simp only [denS] at hd
                    cases hd
                    exact fun pa hp => q _ _ ((R.laid hp).give i (R.new hp) (not_own_new R hp) ⟨pa, #[], rfl, upd_same, .nil, KOk.nil⟩ rfl) (Ext.new hp)
                | _ => exact absurd hok Bool.false_ne_true
              | _ => exact absurd hok Bool.false_ne_true
            | _ => exact absurd hok Bool.false_ne_true
          | _ => exact absurd hok Bool.false_ne_true
        | _ => exact absurd hok Bool.false_ne_true
      | _ => exact absurd hok Bool.false_ne_true
    | _ => exact absurd hok Bool.false_ne_true
  | .asgT is e, a, o, hok, wf => by
    cases a with
    | Assign tgs v p =>
      cases tgs with
      | cons tg tgs =>
        cases tg with
        | Tuple ts k p2 =>
          cases tgs with
          | nil  =>
            have hok : (okTg.okTgs cc is ts && okE cc e v && notComp v && (match (generalizing := false) v with | .Tuple vs _ _ => decide (parB cc ts vs = some none) | _ => true)) = true := hok
            rw [Bool.and_eq_true, Bool.and_eq_true, Bool.and_eq_true] at hok
            obtain ⟨⟨⟨h0, h1⟩, h2⟩, h3⟩ := hok
            have hw : swappedStores [.Tuple ts k p2] v X.env = pure none := by
              cases v with
              | Tuple vs k2 p3 => exact par_is o (of_decide_eq_true h3)
              | _ => exact sw_stores rfl _
            exact (ps_asg (sE e v o h1 wf) (pg_tg o (g := .tp is) (tg := .Tuple ts k p2) h0) (sw_sole h2 _ _ _) hw rfl).mono fun D σ H ⟨G, bg, ρ, r, hd, R, q⟩ => by
              simp only [denS] at hd
              obtain ⟨⟨d, ρ1⟩, h4, hd⟩ := Option.bind_eq_some_iff.mp hd
              split at hd
              case h_2 => cases hd
              rename_i xs hx
              have hx : d = .tuple xs := hx
              subst hx
              obtain ⟨ρ2, h5, hd⟩ := Option.bind_eq_some_iff.mp hd
              cases hd
              exact ⟨G, bg, ρ, _, ρ1, h4, R, fun u H1 R1 e1 d1 => tg_ok R1 d1 (g := .tp is) h5 fun σ2 R2 _ => q _ _ R2 e1⟩
          | _ => exact absurd hok Bool.false_ne_true
        | _ => exact absurd hok Bool.false_ne_true
      | _ => exact absurd hok Bool.false_ne_true
    | _ => exact absurd hok Bool.false_ne_true
  | .par is es, a, o, hok, wf => by
    cases a with
    | Assign tgs v p =>
      cases tgs with
      | cons tg tgs =>
        cases tg with
        | Tuple ts k p2 =>
          cases tgs with
          | nil  =>
            cases v with
            | Tuple vs k2 p3 =>
              simp only [okS, Bool.and_eq_true, decide_eq_true_eq] at hok
              obtain ⟨⟨⟨⟨⟨h0, h1⟩, h2⟩, h3⟩, h4⟩, h5⟩ := hok
              exact s_par o h0 (sEs es vs o h1 wf) h2 h3 h4 h5
            | _ => exact absurd hok Bool.false_ne_true
          | _ => exact absurd hok Bool.false_ne_true
        | _ => exact absurd hok Bool.false_ne_true
      | _ => exact absurd hok Bool.false_ne_true
    | _ => exact absurd hok Bool.false_ne_true
  | .app i e, a, o, hok, wf => by
    cases a with
    | Expr v p =>
      cases v with
      | Call fn args kws cp =>
        cases fn with
        | Attribute x m ap =>
          cases x with
          | Name n q =>
            cases args with
            | cons y ys =>
              cases ys with
              | nil  =>
                cases kws with
                | nil  =>
                  simp only [okS, Bool.and_eq_true, decide_eq_true_eq] at hok
                  obtain ⟨⟨⟨⟨h0, rfl⟩, h1⟩, h2⟩, h3⟩ := hok
                  exact s_app o h0 h1 h2 (sE e y o h3 wf)
                | _ => exact absurd hok Bool.false_ne_true
              | _ => exact absurd hok Bool.false_ne_true
            | _ => exact absurd hok Bool.false_ne_true
          | _ => exact absurd hok Bool.false_ne_true
        | _ => exact absurd hok Bool.false_ne_true
      | _ => exact absurd hok Bool.false_ne_true
    | _ => exact absurd hok Bool.false_ne_true
  | .put i k e, a, o, hok, wf => by
    cases a with
    | Assign tgs v p =>
      cases tgs with
      | cons tg tgs =>
        cases tg with
        | Subscript x y p2 =>
          cases x with
          | Name n q =>
            cases tgs with
            | nil  =>
              simp only [okS, Bool.and_eq_true, decide_eq_true_eq] at hok
              obtain ⟨⟨⟨⟨h0, h1⟩, h2⟩, h3⟩, h4⟩ := hok
              exact s_put o h0 h1 h2 (sE k y o h3 wf.1) (sE e v o h4 wf.2)
            | _ => exact absurd hok Bool.false_ne_true
          | _ => exact absurd hok Bool.false_ne_true
        | _ => exact absurd hok Bool.false_ne_true
      | _ => exact absurd hok Bool.false_ne_true
    | _ => exact absurd hok Bool.false_ne_true
  | .setB i k e, a, o, hok, wf => by
    cases a with
    | Assign tgs v p =>
      cases tgs with
      | cons tg tgs =>
        cases tg with
        | Subscript x y p2 =>
          cases x with
          | Name n q =>
            cases tgs with
            | nil  =>
              simp only [okS, Bool.and_eq_true, decide_eq_true_eq] at hok
              obtain ⟨⟨⟨⟨h0, h1⟩, h2⟩, h3⟩, h4⟩ := hok
              exact s_setB o h0 h1 h2 (sE k y o h3 wf.1) (sE e v o h4 wf.2)
            | _ => exact absurd hok Bool.false_ne_true
          | _ => exact absurd hok Bool.false_ne_true
        | _ => exact absurd hok Bool.false_ne_true
      | _ => exact absurd hok Bool.false_ne_true
    | _ => exact absurd hok Bool.false_ne_true
  | .ret e, a, o, hok, wf => by
    cases a with
    | Return v p =>
      cases v with
      | some v =>
        have hok : okE cc e v = true := hok
        exact (ps_ret (sE e v o hok wf)).mono fun D σ H ⟨G, bg, ρ, r, hd, R, q⟩ => by
          simp only [denS] at hd
          obtain ⟨⟨d, ρ1⟩, h3, hd⟩ := Option.bind_eq_some_iff.mp hd
          cases hd
          exact ⟨G, bg, ρ, d, ρ1, h3, R, fun u H1 R1 e1 d1 => q σ u H1 R1 e1 d1⟩
      | _ => exact absurd hok Bool.false_ne_true
    | _ => exact absurd hok Bool.false_ne_true
  | .ite t s1 s2, a, o, hok, wf => by
    cases a with
    | If c x y p =>
      simp only [okS, Bool.and_eq_true, decide_eq_true_eq] at hok
      obtain ⟨⟨h0, h1⟩, h2⟩ := hok
      exact (ps_if (sT t c o h0 wf.1) (sSs s1 x o h1 wf.2.1) (sSs s2 y o h2 wf.2.2)).mono fun D σ H ⟨G, bg, ρ, r, hd, R, q⟩ => by
        simp only [denS] at hd
        obtain ⟨⟨k, ρ1⟩, h3, hd⟩ := Option.bind_eq_some_iff.mp hd
        refine ⟨G, bg, ρ, k, ρ1, h3, R, fun H1 R1 e1 => ?_⟩
        have qq : tStm X G bg ρ1 r D σ H1 := ⟨R1, by
          obtain ⟨oo, ρ'⟩ := r
          cases oo with
          | nx => exact fun σ' H' R' e' => q σ' H' R' (e1.trans e')
          | ret dd => exact fun σ' v H' R' e' d' => q σ' v H' R' (e1.trans e') d'⟩
        cases k with
        | true => exact iteT ⟨G, bg, ρ1, r, hd, qq⟩
        | false => exact iteF ⟨G, bg, ρ1, r, hd, qq⟩
    | _ => exact absurd hok Bool.false_ne_true
  | .loop g it b kill, a, o, hok, wf => by
    cases a with
    | For tg iter body els p =>
      cases els with
      | nil  =>
        have hok : (notSet iter && okTg cc g tg && okIt cc it iter (isTupE tg) && okSs cc b body) = true := hok
        simp only [Bool.and_eq_true] at hok
        obtain ⟨⟨⟨h0, h1⟩, h2⟩, h3⟩ := hok
        exact (ps_for (by rw [o.xe]; exact PassesOwn.never) o.calm (sIt it iter tg o h2 wf.1) (pg_tg o h1) (sSs b body o h3 wf.2) (fold_of h0 X.env)).mono fun D σ H h => loop_ok h
      | _ => exact absurd hok Bool.false_ne_true
    | _ => exact absurd hok Bool.false_ne_true
  | .exp e, a, o, hok, wf => by
    cases a with
    | Expr v p =>
      simp only [okS, Bool.and_eq_true, decide_eq_true_eq] at hok
      obtain ⟨h0, h1⟩ := hok
      exact (ps_expr (sE e v o h1 wf) (sw_false h0 _ _ _)).mono fun D σ H ⟨G, bg, ρ, r, hd, R, q⟩ => by
        simp only [denS] at hd
        obtain ⟨⟨d, ρ1⟩, h3, hd⟩ := Option.bind_eq_some_iff.mp hd
        cases hd
        exact ⟨G, bg, ρ, d, ρ1, h3, R, fun u H1 R1 e1 d1 => q σ H1 R1 e1⟩
    | _ => exact absurd hok Bool.false_ne_true
  | .never, a, o, hok, wf => ⟨fun pins s σ H D I ⟨G, bg, ρ, r, hd, _⟩ => nomatch hd⟩
termination_by structural s => s
theorem sSs {cc : CC} {X : Cx} {lv : Nat} : ∀ (s : Ss) (st : List Stmt), OkX cc X lv → okSs cc s st = true → wfSs (HasP X lv) (HasB X lv) (HasG X) s → PSs X st (uSs X s)
  | .nil, a, o, hok, wf => by
    cases a with
    | nil => exact pss_nil.mono fun D σ H ⟨G, bg, ρ, r, hd, R, q⟩ => by cases hd; exact q σ H R (Ext.refl H)
    | cons _ _ => exact absurd hok Bool.false_ne_true
  | .cons s r, a, o, hok, wf => by
    cases a with
    | nil => exact absurd hok Bool.false_ne_true
    | cons x xs =>
      have hok : (okS cc s x && okSs cc r xs) = true := hok
      rw [Bool.and_eq_true] at hok
      exact (pss_cons (sS s x o hok.1 wf.1) (sSs r xs o hok.2 wf.2)).mono fun D σ H ⟨G, bg, ρ, rr, hd, R, q⟩ => by
        simp only [denSs] at hd
        obtain ⟨⟨oo, ρ1⟩, h3, hd⟩ := Option.bind_eq_some_iff.mp hd
        refine ⟨G, bg, ρ, (oo, ρ1), h3, R, ?_⟩
        cases oo with
        | nx =>
          intro σ1 H1 R1 e1
          refine ⟨G, bg, ρ1, rr, hd, R1, ?_⟩
          obtain ⟨o2, ρ2⟩ := rr
          cases o2 with
          | nx => exact fun σ' H' R' e' => q σ' H' R' (e1.trans e')
          | ret dd => exact fun σ' v H' R' e' d' => q σ' v H' R' (e1.trans e') d'
        | ret d =>
          cases hd
          exact fun σ' v H' R' e' d' => q σ' v H' R' e' d'
termination_by structural s => s
end
end WM
set_option Elab.async false
set_option linter.all false
set_option maxRecDepth 100000
set_option maxHeartbeats 4000000
/-! WmW: defs. -/
namespace WM
open PySem PySem.Spec PyProof.Rows L2 PySem.W PySem.SeqAt

section
variable (P : Program) (w : World) (K : PySem.W.Frag) (mg : Str → Option Value) (base : Heap)
def HP (lv : Nat) (f : Str) (F : FP) : Prop := ∃ fa fd ps, mg f = some (.ref fa) ∧ FnOk P w K mg base CX0 lv fa fd ps (spP w K ps.length F) ∧ PySem.W.keepIn K (.ref fa) = true ∧ Binds K fd ps [] ∧ ∀ ds r, F ds = some r → ds.length = ps.length
def HB (lv : Nat) (f : Str) (F : FB) : Prop := ∃ fa fd ps, mg f = some (.ref fa) ∧ FnOk P w K mg base CX0 lv fa fd ps (spB w K ps.length F) ∧ PySem.W.keepIn K (.ref fa) = true ∧ Binds K fd ps [] ∧ ∀ xs ds r, F xs ds = some r → ds.length + 1 = ps.length
def HG (x : Str) (d : D) : Prop := ∃ u v, mg x = some u ∧ RelV v u ∧ ∀ H, Dn w K H v d
/-- a def of the text, found -/
structure Def (nm : Str) (st : Stmt) (ps : List Str) : Prop where
  ex : ∃ own fa fd, mg nm = some (.ref fa) ∧ Fun K own own st fa fd ∧ ∀ us : List Value, us.length = ps.length → bindArgs fd ⟨us, []⟩ = pure (ps.zip us)
end
def scB (N ps : List Str) (sc : Scope) : Bool :=
  (match sc.kind with | .function => true | _ => false) && !sc.isCoroutine && !sc.isGenerator && decide N.Nodup && decide (N.take ps.length = ps) &&
    (ps.all fun x => match sc.names.lookup x with | some .local => true | some .cell => true | _ => false) && sc.names.all fun y => match y.2 with | .free => false | _ => true
theorem sc_of {N ps : List Str} {sc : Scope} (h : scB N ps sc = true) : FnScope N ps sc := by
  unfold scB at h
  simp only [Bool.and_eq_true, decide_eq_true_eq, Bool.not_eq_true', List.all_eq_true] at h
  obtain ⟨⟨⟨⟨⟨⟨h1, h2⟩, h3⟩, h4⟩, h5⟩, h6⟩, h7⟩ := h
  refine ⟨?_, h2, h3, h4, h5, fun x hx => ?_, fun y hy e => ?_⟩
  · split at h1
    · assumption
    · cases h1
  · have := h6 x hx
    split at this
    · rename_i q; exact .inl q
    · rename_i q; exact .inr q
    · cases this
  · have := h7 y hy
    rw [e] at this; cases this
section
variable {P : Program} {w : World} {K : PySem.W.Frag} {mg : Str → Option Value} {base : Heap}
theorem HP.mono {i j : Nat} {f : Str} {F : FP} (h : HP P w K mg base i f F) (hij : i ≤ j) : HP P w K mg base j f F := by
  obtain ⟨fa, fd, ps, h1, h2, h3, h4, h5⟩ := h
  exact ⟨fa, fd, ps, h1, h2.mono hij, h3, h4, h5⟩
theorem HB.mono {i j : Nat} {f : Str} {F : FB} (h : HB P w K mg base i f F) (hij : i ≤ j) : HB P w K mg base j f F := by
  obtain ⟨fa, fd, ps, h1, h2, h3, h4, h5⟩ := h
  exact ⟨fa, fd, ps, h1, h2.mono hij, h3, h4, h5⟩
theorem okx_of {N ps : List Str} {st : Stmt} (S : FnScope N ps (defScope st)) (hb : ∀ x ∈ bnames, mg x = none) {qual : Str} {f : Addr} {cdv : Value} {A : Around} {outer : List PySem.Env} {s : Shared} {H : Hp} {E : XK} {k : Nat} (hr : Room k (A.deeper (envOfC qual (defScope st) s.heap.objs.size f cdv))) :
    OkX ⟨N, defScope st, defScope st⟩ ((cxOf CX0 P w K mg base N qual (defScope st) f cdv A outer s H E).nox) k where
  n := rfl
  sc := rfl
  nd := S.nd
  calm := rfl
  xe := rfl
  room := hr
  st := fun x h => by
    refine ⟨?_, .inl rfl⟩
    have h : (match (defScope st).names.lookup x with | some .local => true | some .cell => true | _ => false) = true := h
    split at h
    · rename_i q; exact .inl q
    · rename_i q; exact .inr q
    · cases h
  blt := hb
theorem start_get {N : List Str} {vs : List V} {i : Nat} : (L2.start N vs)[i]? = if h : i < vs.length then some (some vs[i]) else if i < N.length then some none else none := by
  unfold L2.start
  by_cases h : i < vs.length
  · rw [dif_pos h, List.getElem?_append_left (by simpa using h), List.getElem?_map, List.getElem?_eq_getElem h]; rfl
  · rw [dif_neg h, List.getElem?_append_right (by simpa using h)]
    by_cases h2 : i < N.length
    · rw [if_pos h2, List.getElem?_replicate, if_pos (by simp; omega)]
    · rw [if_neg h2, List.getElem?_replicate, if_neg (by simp; omega)]
theorem rel_start {X : Cx} {H : Hp} {N : List Str} {vs : List V} {ds : List D} (hl : vs.length ≤ N.length) (d : Dxs X H vs ds) : Rel X H none (ds.map .d ++ List.replicate (N.length - ds.length) .un) (L2.start N vs) H := by
  have noOwn : ∀ (i : Nat) (sv : SV), (ds.map SV.d ++ List.replicate (N.length - ds.length) SV.un)[i]? = some sv → (∃ x, sv = .d x ∧ ds[i]? = some x) ∨ sv = .un := fun i sv e => by
    by_cases h : i < ds.length
    · rw [List.getElem?_append_left (by simpa using h), List.getElem?_map] at e
      obtain ⟨x, e1, e2⟩ := Option.map_eq_some_iff.mp e
      exact .inl ⟨x, e2.symm, e1⟩
    · rw [List.getElem?_append_right (by simpa using h), List.getElem?_replicate] at e
      split at e
      · cases e; exact .inr rfl
      · cases e
  have no : ∀ (f : Option SV → Bool), (∀ x, f (some (.d x)) = false) → f (some .un) = false → f none = false → ∀ i : Nat, f (ds.map SV.d ++ List.replicate (N.length - ds.length) SV.un)[i]? = true → False := fun f h1 h2 h3 i hi => by
    cases q : (ds.map SV.d ++ List.replicate (N.length - ds.length) SV.un)[i]? with
    | none => rw [q, h3] at hi; cases hi
    | some sv =>
      rw [q] at hi
      rcases noOwn i sv q with ⟨x, rfl, _⟩ | rfl
      · rw [h1] at hi; cases hi
      · rw [h2] at hi; cases hi
  have hlen := d.length
  refine ⟨?_, fun i sv e => ?_, fun i j a hi => (no isOwn (fun _ => rfl) rfl rfl i hi).elim, fun i a hi => (no isNew (fun _ => rfl) rfl rfl i hi).elim, fun i a hi => (no isBo (fun _ => rfl) rfl rfl i hi).elim, fun b o e _ => e, (fun a h => nomatch h), (fun a h => nomatch h)⟩
  · unfold L2.start; simp; omega
  · rcases noOwn i sv e with ⟨x, rfl, h⟩ | rfl
    · obtain ⟨v, h1, h2⟩ := DnA.get d h
      refine ⟨v, ?_, h2⟩
      obtain ⟨hi, e1⟩ := List.getElem?_eq_some_iff.mp h1
      rw [start_get, dif_pos hi, e1]
    · exact True.intro
/-- a def that hands back what the evaluator says -/
theorem def_P {nm : Str} {st : Stmt} {ps N : List Str} {b : Ss} {k : Nat} (Df : Def K mg nm st ps) (hb : ∀ x ∈ bnames, mg x = none) (hsc : scB N ps (defScope st) = true) (hok : okSs ⟨N, defScope st, defScope st⟩ b (defBody st) = true) (wf : wfSs (HP P w K mg base k) (HB P w K mg base k) (HG w K mg) b) :
    HP P w K mg base (k + 1) nm (runP b N.length ps.length) := by
  obtain ⟨own, fa, fd, h1, F, bn⟩ := Df.ex
  have bn := L2.Binds.all (K := K) bn
  have S := sc_of hsc
  have hpl : ps.length ≤ N.length := by have := congrArg List.length S.pre; rw [List.length_take] at this; omega
  refine ⟨fa, fd, ps, h1, F.ok S (fun vs H Q E h => h.1) (fun cdv A outer s H vs Q E hr h => ?_), F.kp, bn, fun ds r h => ?_⟩
  · obtain ⟨hl, ds, r, hd, hF, q⟩ := h
    have o := okx_of (P := P) (w := w) (K := K) (base := base) (qual := own) (f := fa) (cdv := cdv) (outer := outer) (E := E) (H := H) S hb hr
    refine ⟨_, sSs b (defBody st) o hok wf, ?_⟩
    unfold runP at hF
    split at hF
    case isFalse => cases hF
    rename_i hk
    obtain ⟨⟨oo, ρ'⟩, h3, hF⟩ := Option.bind_eq_some_iff.mp hF
    cases hF
    rw [← hk] at h3
    refine ⟨H, none, _, (oo, ρ'), h3, rel_start (by omega) hd, ?_⟩
    cases oo with
    | nx => exact fun σ' H' R' e' => q .non H' (fun b o e => R'.frame b o e (fun z => nomatch z)) .non
    | ret d => exact fun σ' v H' R' e' d' => q v H' (fun b o e => R'.frame b o e (fun z => nomatch z)) d'
  · unfold runP at h
    split at h
    · rename_i hk; exact hk
    · cases h
/-- a def that may change the list that is its first argument -/
theorem def_B {nm : Str} {st : Stmt} {ps N : List Str} {b : Ss} {k : Nat} (Df : Def K mg nm st ps) (hb : ∀ x ∈ bnames, mg x = none) (hsc : scB N ps (defScope st) = true) (hok : okSs ⟨N, defScope st, defScope st⟩ b (defBody st) = true) (wf : wfSs (HP P w K mg base k) (HB P w K mg base k) (HG w K mg) b) :
    HB P w K mg base (k + 1) nm (runB b N.length ps.length) := by
  obtain ⟨own, fa, fd, h1, F, bn⟩ := Df.ex
  have bn := L2.Binds.all (K := K) bn
  have S := sc_of hsc
  have hpl : ps.length ≤ N.length := by have := congrArg List.length S.pre; rw [List.length_take] at this; omega
  refine ⟨fa, fd, ps, h1, F.ok S (fun vs H Q E h => h.1) (fun cdv A outer s H vs Q E hr h => ?_), F.kp, bn, fun xs ds r h => ?_⟩
  · obtain ⟨hl, a, us, xs, vs', ds, r, xs', rfl, ha, hu, hd, hF, q⟩ := h
    have o := okx_of (P := P) (w := w) (K := K) (base := base) (qual := own) (f := fa) (cdv := cdv) (outer := outer) (E := E) (H := H) S hb hr
    refine ⟨_, sSs b (defBody st) o hok wf, ?_⟩
    unfold runB at hF
    split at hF
    case isFalse => cases hF
    rename_i hk
    obtain ⟨⟨oo, ρ'⟩, h3, hF⟩ := Option.bind_eq_some_iff.mp hF
    obtain ⟨xs2, h4, hF⟩ := Option.bind_eq_some_iff.mp hF
    cases hF
    have hlen : ps.length ≤ N.length := hpl
    have R0 : Rel ((cxOf CX0 P w K mg base N own (defScope st) fa cdv A outer s H E).nox) H (some a) (.bo xs :: ds.map .d ++ List.replicate (N.length - ps.length) .un) (L2.start N (.ref a :: vs')) H := by
      rw [List.length_cons] at hl
      have hds := hd.length
      have R := rel_start (X := (cxOf CX0 P w K mg base N own (defScope st) fa cdv A outer s H E).nox) (N := N.drop 1) (vs := vs') (ds := ds) (by rw [List.length_drop]; omega) hd
      have e1 : L2.start N (.ref a :: vs') = some (.ref a) :: L2.start (N.drop 1) vs' := by
        unfold L2.start
        rw [List.map_cons, List.length_cons, List.length_drop]
        rw [show N.length - (vs'.length + 1) = N.length - 1 - vs'.length by omega]; rfl
      have e2 : (SV.bo xs :: ds.map SV.d ++ List.replicate (N.length - ps.length) SV.un) = SV.bo xs :: (ds.map SV.d ++ List.replicate ((N.drop 1).length - ds.length) SV.un) := by
        rw [List.length_drop, List.cons_append, show N.length - ps.length = N.length - 1 - ds.length by omega]
      rw [e1, e2]
      generalize (ds.map SV.d ++ List.replicate ((N.drop 1).length - ds.length) SV.un) = ρt at R
      generalize L2.start (N.drop 1) vs' = σt at R
      have sh : ∀ (f : Option SV → Bool) (i : Nat), (∀ i : Nat, f ρt[i]? = true → False) → f (SV.bo xs :: ρt)[i]? = true → i = 0 := fun f i h hi => by
        cases i with
        | zero => rfl
        | succ i => exact (h i (by simpa using hi)).elim
      have nb : ∀ i : Nat, isBo ρt[i]? = true → False := fun i hi => by
        have h := R.len
        cases e : σt[i]? with
        | none =>
          have : ρt[i]? = none := List.getElem?_eq_none (by rw [h]; exact List.getElem?_eq_none_iff.mp e)
          rw [this] at hi; cases hi
        | some o =>
          cases q : ρt[i]? with
          | none => rw [q] at hi; cases hi
          | some sv =>
            have := R.at_ i sv q
            cases sv with
            | bo ys => obtain ⟨a', _, e', _⟩ := this; exact nomatch (R.lent i a' (by rw [q]; rfl) e')
            | _ => rw [q] at hi; cases hi
      have nn : ∀ i : Nat, isNew ρt[i]? = true → False := fun i hi => by
        cases q : ρt[i]? with
        | none => rw [q] at hi; cases hi
        | some sv =>
          have := R.at_ i sv q
          cases sv with
          | ol ys => obtain ⟨a', vs, e', h', _⟩ := this; have := R.fresh i a' (by rw [q]; rfl) e'; rw [h'] at this; cases this
          | od ys => obtain ⟨a', vs, e', h', _⟩ := this; have := R.fresh i a' (by rw [q]; rfl) e'; rw [h'] at this; cases this
          | _ => rw [q] at hi; cases hi
      have no : ∀ i : Nat, isOwn ρt[i]? = true → False := fun i hi => (own_cases hi).elim (nn i) (nb i)
      refine ⟨by rw [List.length_cons, List.length_cons, R.len], fun i sv e => ?_, fun i j c hi hj _ _ => by rw [sh isOwn i no hi, sh isOwn j no hj], fun i c hi e => ?_, fun i c hi e => ?_, fun b o e _ => e, fun c hc => by cases hc; exact ⟨us, ha⟩, fun c hc => by cases hc; rw [ha]; exact fun z => nomatch z⟩
      · cases i with
        | zero => cases e; exact ⟨a, us, rfl, ha, hu⟩
        | succ i => exact R.at_ i sv (by simpa using e)
      · have := sh isNew i nn hi
        subst this
        cases hi
      · have := sh isBo i nb hi
        subst this
        have e : some (some (V.ref a)) = some (some (V.ref c)) := e
        cases e; rfl
    refine ⟨H, some a, _, (oo, ρ'), h3, R0, ?_⟩
    have fin : ∀ σ' v H', Rel ((cxOf CX0 P w K mg base N own (defScope st) fa cdv A outer s H E).nox) H (some a) ρ' σ' H' → Dx ((cxOf CX0 P w K mg base N own (defScope st) fa cdv A outer s H E).nox) H' v (outOf oo) → Q v H' := fun σ' v H' R' d' => by
      have hb0 : ρ'[0]? = some (.bo xs') := by
        unfold lentOf at h4
        split at h4
        · rename_i q; cases h4; exact q
        · cases h4
      obtain ⟨a', us', e', h5, h6⟩ := R'.at_ 0 _ hb0
      have := R'.lent 0 a' (by rw [hb0]; rfl) e'
      cases this
      exact q v H' us' (fun b o hne e => R'.frame b o e (fun z => hne (Option.some.inj z).symm)) h5 h6 d'
    cases oo with
    | nx => exact fun σ' H' R' e' => fin σ' .non H' R' .non
    | ret d => exact fun σ' v H' R' e' d' => fin σ' v H' R' d'
  · unfold runB at h
    split at h
    · rename_i hk; exact hk
    · cases h
/-- nothing is promised of a def -/
theorem def_none {nm : Str} {st : Stmt} {ps : List Str} {k : Nat} (Df : Def K mg nm st ps) : HP P w K mg base k nm (fun _ => none) := by
  obtain ⟨own, fa, fd, h1, F, bn⟩ := Df.ex
  have bn := L2.Binds.all (K := K) bn
  exact ⟨fa, fd, ps, h1, ⟨fun vs H Q E h => h.1, fun A outer s H args us vs Q E hr he hb hv h => by obtain ⟨_, ds, r, _, hF, _⟩ := h; cases hF⟩, F.kp, bn, fun ds r h => nomatch h⟩
/-- a def as the linked text's top has left it -/
theorem def_mk {h : Heap} (X : K.In h) (G : h.Ns mainGlobals mg) {nm own : Str} {st : Stmt} {f : Addr} {oc : Value} {od an : Option Addr} {osl : Array (Option Value)} {kV doc pm cdv ct : Value} {ps : List Str}
    (a : PySem.W.nsIn K mainGlobals nm = some (some (.ref f))) (l : K.lookup f = some ⟨oc, od, .func (PySem.W.fnOf own own (defArgs st) (defBody st) (defScope st) .none kV doc pm an cdv ct), osl⟩)
    (c : PySem.W.codeIn K cdv own = true) (k : PySem.W.keepIn K (.ref f) = true)
    (hb : ∀ (kV doc pm : Value) (an : Option Addr) (cdv ct : Value) (us : List Value), us.length = ps.length → bindArgs (PySem.W.fnOf own own (defArgs st) (defBody st) (defScope st) .none kV doc pm an cdv ct) ⟨us, []⟩ = pure (ps.zip us)) : Def K mg nm st ps := by
  have F := fun_mk (st := st) l c k
  exact ⟨own, f, _, PySem.W.mg_of X G a, F, hb kV doc pm an cdv ct⟩
theorem glob_int {h : Heap} (X : K.In h) (G : h.Ns mainGlobals mg) {nm : Str} {i : Int} {t : Tok} (a : PySem.W.nsIn K mainGlobals nm = some (some (.int i t))) : HG w K mg nm (.int i) := ⟨_, .int i, PySem.W.mg_of X G a, ⟨t, rfl⟩, fun H => .int i⟩
theorem glob_str {h : Heap} (X : K.In h) (G : h.Ns mainGlobals mg) {nm : Str} {i : Str} {t : Tok} (a : PySem.W.nsIn K mainGlobals nm = some (some (.str i t))) : HG w K mg nm (.str i) := ⟨_, .str i, PySem.W.mg_of X G a, ⟨t, rfl⟩, fun H => .str i⟩
end
end WM
set_option Elab.async false
set_option linter.all false
set_option maxRecDepth 100000
set_option maxHeartbeats 4000000
/-! WmX: the bags that a law draws from; the law's own loop. -/
namespace WM
open PySem PySem.Spec PyProof.Rows L2 PySem.W PySem.SeqAt

def two61 : Int := 2305843009213693951
def ten18 : Int := 1000000000000000000
/-- a bag as it is made -/
def wellI (c t : Int) : List Int := if ten18 ≤ c then [c - ten18, c % two61, t] else [0, c % two61, t]
def wellT : T := .val (.cmp .ge (.var 0) (.bin .pow (.int 10) (.int 18)))
def wellA : E := .lst (.cons (.bin .sub (.var 0) (.bin .pow (.int 10) (.int 18))) (.cons (.bin .mod (.var 0) (.int two61)) (.cons (.var 1) .nil)))
def wellC : E := .lst (.cons (.int 0) (.cons (.bin .mod (.var 0) (.int two61)) (.cons (.var 1) .nil)))
def wellB (cc : CC) : List Stmt → Bool
  | [.If c [.Return (some l1) _] [] _, .Return (some l2) _] => okT cc wellT c && okE cc wellA l1 && okE cc wellC l2
  | _ => false
theorem lt_int (a b : Int) : dataLt (.int a) (.int b) = decide (a < b) := by
  by_cases h : a < b
  · rw [decide_eq_true h]; simp [dataLt, PyProof.Rows.lexLt, keyToks, itemOrd, itemLt, h]
  · rw [decide_eq_false h]; simp [dataLt, PyProof.Rows.lexLt, keyToks, itemOrd, itemLt, h]
theorem cmp_ge (a b : Int) : evCmp .ge (.int a) (.int b) = some (decide (b ≤ a)) := by
  have hc : cmpOk (.int a) (.int b) = true := by simp [cmpOk, alike, isNone, shallow, PyData.plain, PyData.depth]
  have e : evCmp .ge (.int a) (.int b) = if cmpOk (.int a) (.int b) then some (!dataLt (.int a) (.int b)) else none := rfl
  rw [e, hc, lt_int]
  by_cases h : a < b
  · rw [decide_eq_true h, decide_eq_false (by omega)]; rfl
  · rw [decide_eq_false h, decide_eq_true (by omega)]; rfl
theorem ev_pow18 : evBin .pow (.int 10) (.int 18) = some (.int ten18) := by decide +kernel
theorem ev_mod61 (c : Int) : evBin .mod (.int c) (.int two61) = some (.int (c % two61)) := by
  show (if 0 < two61 then some (PyData.int (c % two61)) else none) = _
  exact if_pos (by decide)
theorem ev_sub (a b : Int) : evBin .sub (.int a) (.int b) = some (.int (a - b)) := rfl
section
variable (K : PySem.W.Frag)
/-- a bag at q -/
def BagAt (H : Hp) (q : Addr) (xs : List Int) : Prop := H q = some (.lst (xs.map V.int))
def spWell : Sp := fun vs H Q _ => ∃ c t, vs = [.int c, .int t] ∧ ∀ p H', (∀ b o, H b = some o → H' b = some o) → H p = none → BagAt H' p (wellI c t) → Q (.ref p) H'
def spBags : Sp := fun vs H Q _ => ∃ (a : Addr) (ns : List Int) (m : Int), vs = [.ref a, .int m] ∧ SqL K H a (ns.map V.int) ∧ 0 ≤ m ∧ m ≤ 100 ∧ ns.length ≤ 63 ∧
  ∀ (p : Addr) (ps : List Addr) (H' : Hp), (∀ b o, H b = some o → H' b = some o) → H p = none → H' p = some (.lst (ps.map V.ref)) → ps.length = (ns.take m.toNat ++ [0]).length → ps.Nodup → p ∉ ps →
    (∀ (i : Nat) q c, ps[i]? = some q → (ns.take m.toNat ++ [0])[i]? = some c → H q = none ∧ BagAt H' q (wellI c (977 * i))) → Q (.ref p) H'
end
section
variable {P : Program} {w : World} {K : PySem.W.Frag} {mg : Str → Option Value} {base : Heap}
theorem dn_int {H : Hp} {v : V} {i : Int} (h : Dn w K H v (.int i)) : v = .int i := by cases h; rfl
theorem dn_ints {H : Hp} : ∀ {vs : List V} {ns : List Int}, DnA w K H vs (ns.map PyData.int) → vs = ns.map V.int
  | _, [], h => by cases h; rfl
  | _, n :: ns, h => by
    cases h with
    | cons a b => rw [dn_int a, dn_ints b]; rfl
theorem ints_dn {H : Hp} : ∀ (ns : List Int), DnA w K H (ns.map V.int) (ns.map PyData.int)
  | [] => .nil
  | n :: ns => .cons (.int n) (ints_dn ns)
theorem ok_well {st : Stmt} {ps N : List Str} (Df : Def K mg "_law_well" st ps) (hps : ps.length = 2) (hN : N.length = 2) (hb : ∀ x ∈ bnames, mg x = none) (hsc : scB N ps (defScope st) = true) (hok : wellB ⟨N, defScope st, defScope st⟩ (defBody st) = true) :
    ∃ fa fd, mg "_law_well" = some (.ref fa) ∧ FnOk P w K mg base CX0 1 fa fd ps spWell ∧ PySem.W.keepIn K (.ref fa) = true ∧ Binds K fd ps [] := by
  obtain ⟨own, fa, fd, h1, F, bn⟩ := Df.ex
  have bn := L2.Binds.all (K := K) bn
  have S := sc_of hsc
  refine ⟨fa, fd, h1, F.ok S (fun vs H Q E h => by obtain ⟨c, t, rfl, _⟩ := h; exact hps.symm) (fun cdv A outer s H vs Q E hr h => ?_), F.kp, bn⟩
  obtain ⟨c, t, rfl, q⟩ := h
  have o := okx_of (P := P) (w := w) (K := K) (base := base) (qual := own) (f := fa) (cdv := cdv) (outer := outer) (E := E) (H := H) S hb hr
  unfold wellB at hok
  split at hok
  case h_2 => cases hok
  rename_i _ cx l1 pp pp2 l2 p3 heq
  rw [heq]
  simp only [Bool.and_eq_true] at hok
  obtain ⟨⟨k1, k2⟩, k3⟩ := hok
  refine ⟨_, pss_cons (ps_if (sT wellT cx o k1 ⟨True.intro, True.intro, True.intro⟩) (pss_cons (ps_ret (sF o k2 ⟨⟨True.intro, True.intro, True.intro⟩, ⟨True.intro, True.intro⟩, True.intro, True.intro⟩ ⟨_, rfl⟩)) pss_nil) pss_nil) (pss_cons (ps_ret (sF o k3 ⟨True.intro, ⟨True.intro, True.intro⟩, True.intro, True.intro⟩ ⟨_, rfl⟩)) pss_nil), ?_⟩
  have R := rel_start (X := ((cxOf CX0 P w K mg base N own (defScope st) fa cdv A outer s H E).nox)) (H := H) (N := N) (vs := [.int c, .int t]) (ds := [.int c, .int t]) (by rw [hN]; exact Nat.le_refl _) (.cons (.int c) (.cons (.int t) .nil))
  have hρ : ([PyData.int c, PyData.int t].map SV.d ++ List.replicate (N.length - [PyData.int c, PyData.int t].length) SV.un) = [.d (.int c), .d (.int t)] := by rw [hN]; rfl
  rw [hρ] at R
  have hT : denT wellT [.d (.int c), .d (.int t)] = some (decide (ten18 ≤ c), [.d (.int c), .d (.int t)]) := by
    simp only [wellT, denT, den, rdVar, List.getElem?_cons_zero, Option.bind_some, ev_pow18, cmp_ge, truth]
  have fin : ∀ a vs H', H' a = some (.lst vs) → Dxs ((cxOf CX0 P w K mg base N own (defScope st) fa cdv A outer s H E).nox) H' vs ((wellI c t).map PyData.int) → H a = none → (∀ b o, H b = some o → H' b = some o) → Q (.ref a) H' := fun a vs H' e1 e2 e3 e4 => q a H' e4 e3 (by unfold BagAt; rw [e1, dn_ints e2])
  refine ⟨H, none, _, _, _, hT, R, fun H1 R1 e1 => ?_⟩
  by_cases hc : ten18 ≤ c
  · rw [decide_eq_true hc]
    have hd : den wellA [.d (.int c), .d (.int t)] = some (.list ((wellI c t).map PyData.int), [.d (.int c), .d (.int t)]) := by
      unfold wellI; rw [if_pos hc]
      simp only [wellA, den, denEs, rdVar, List.getElem?_cons_zero, List.getElem?_cons_succ, Option.bind_some, ev_pow18, ev_mod61, ev_sub, List.map_cons, List.map_nil]
    exact iteT ⟨H, none, _, _, _, hd, R1, fun a vs H' R' e h1 h2 h3 _ => fin a vs H' h1 h2 h3 fun b o eb => R'.frame b o eb (fun z => nomatch z)⟩
  · rw [decide_eq_false hc]
    have hd : den wellC [.d (.int c), .d (.int t)] = some (.list ((wellI c t).map PyData.int), [.d (.int c), .d (.int t)]) := by
      unfold wellI; rw [if_neg hc]
      simp only [wellC, den, denEs, rdVar, List.getElem?_cons_zero, List.getElem?_cons_succ, Option.bind_some, ev_mod61, List.map_cons, List.map_nil]
    exact iteF ⟨H, none, _, _, _, hd, R1, fun a vs H' R' e h1 h2 h3 _ => fin a vs H' h1 h2 h3 fun b o eb => R'.frame b o eb (fun z => nomatch z)⟩
/-- the text of _law_bags -/
def bagsB (cc : CC) : List Stmt → Bool
  | [.Return (some (.ListComp (.Call (.Name g _) [.Name y _, .BinOp (.Constant (.int j) _ _) .Mult (.Name x _) _] [] _) [⟨.Tuple [t1, t2] k tp, .Call (.Name e _) [.BinOp (.Subscript (.Name sc _) (.Slice none (some (.Name mo _)) none _) _) .Add (.List [.Constant (.int z) _ _] _) _] [] _, [], as⟩] scope _)) _] =>
    decide (g = "_law_well") && glB (cc.blk scope) g && nmB (cc.blk scope) 3 y && decide (j = 977) && nmB (cc.blk scope) 2 x && okTg (cc.blk scope) (.tp [2, 3]) (.Tuple [t1, t2] k tp) && decide (e = "enumerate") && glB cc e && nmB cc 0 sc && nmB cc 1 mo && decide (z = 0) && decide (as = 0) && blkC cc.N cc.sc scope [("k", 2), ("cell", 3)]
  | _ => false
theorem wipe4 (a b c d : Option V) : L2.wipe [a, b, c, d] [2, 3] = [a, b, none, none] := rfl
theorem cut_take (ns : List Int) {m : Int} (hm : 0 ≤ m) : cutV (ns.map V.int) none (some m) = (ns.take m.toNat).map V.int := by
  unfold cutV
  rw [cutIx_eq, cutIx_eq]
  simp only [cutIx, if_pos hm, List.drop_zero, Nat.sub_zero]
  rw [List.map_take, List.length_map]
  by_cases h : m.toNat ≤ ns.length
  · rw [Nat.min_eq_left h]
  · rw [Nat.min_eq_right (by omega), List.take_of_length_le (by simp), List.take_of_length_le (by simp; omega)]
theorem ok_bags {st : Stmt} {ps N : List Str} (Df : Def K mg "_law_bags" st ps) (hps : ps.length = 2) (hN : N = [("script" : Str), "most", "k", "cell"]) (hb : ∀ x ∈ bnames, mg x = none) (hsc : scB N ps (defScope st) = true) (hok : bagsB ⟨N, defScope st, defScope st⟩ (defBody st) = true)
    {pw : List Str} (hpw : pw.length = 2) (hw : ∃ fa fd, mg "_law_well" = some (.ref fa) ∧ FnOk P w K mg base CX0 1 fa fd pw spWell ∧ PySem.W.keepIn K (.ref fa) = true ∧ Binds K fd pw []) :
    ∃ fa fd, mg "_law_bags" = some (.ref fa) ∧ FnOk P w K mg base CX0 2 fa fd ps (spBags K) ∧ PySem.W.keepIn K (.ref fa) = true ∧ Binds K fd ps [] := by
  obtain ⟨own, fa, fd, h1, F, bn⟩ := Df.ex
  have bn := L2.Binds.all (K := K) bn
  obtain ⟨wa, wd, w1, w2, w3, w4⟩ := hw
  have S := sc_of hsc
  refine ⟨fa, fd, h1, F.ok S (fun vs H Q E h => by obtain ⟨a, ns, m, rfl, _⟩ := h; exact hps.symm) (fun cdv A outer s H vs Q E hr h => ?_), F.kp, bn⟩
  obtain ⟨a, ns, m, rfl, hS, hm0, hm1, hns, q⟩ := h
  have o := okx_of (P := P) (w := w) (K := K) (base := base) (qual := own) (f := fa) (cdv := cdv) (outer := outer) (E := E) (H := H) S hb hr
  unfold bagsB at hok
  split at hok
  case h_2 => cases hok
  rename_i heq
  rw [heq]
  simp only [Bool.and_eq_true, decide_eq_true_eq] at hok
  obtain ⟨⟨⟨⟨⟨⟨⟨⟨⟨⟨⟨⟨rfl, k1⟩, k2⟩, rfl⟩, k3⟩, k4⟩, rfl⟩, k5⟩, k6⟩, k7⟩, rfl⟩, rfl⟩, k8⟩ := hok
  have ok := blkOk_by k8
  refine ⟨_, pss_cons (ps_ret (pe_lc (own := [("k", 2), ("cell", 3)]) (g := tgT K (.tp [2, 3])) (tt := tYes) (te := fun σ H Q => ∃ c k, σ[3]? = some (some (.int c)) ∧ σ[2]? = some (some (.int k)) ∧ spWell [.int c, .int (977 * k)] H Q E0) o.calm o.nd
    (pi_enum (o.gl k5) (o.blt _ (by decide +kernel)) (pa_cons (pe_op op_catR (pe_slice sl_list (pe_slot o k6) po_none (po_some (pe_slot o k7))) (pe_lst (pa_cons pe_int pa_nil rfl))) pa_nil rfl) rfl) ok
    (fun s H C cl fp => pg_tg (o.block (s := s) (H := H) (C := C) (cl := cl) (fp := fp)) k4) (fun s H C cl fp => pts_nil)
    (fun s H C cl fp => (pe_call (sp := spWell) (E := E0) w2 ((o.block (s := s) (H := H) (C := C) (cl := cl) (fp := fp)).room.mono (Nat.le_refl _)) ((o.block (s := s) (H := H) (C := C) (cl := cl) (fp := fp)).gl k1) w1 w3 w4 .nil pass0 (pa_cons (pe_slot (o.block (s := s) (H := H) (C := C) (cl := cl) (fp := fp)) k2) (pa_cons (pe_op op_mul pe_int (pe_slot (o.block (s := s) (H := H) (C := C) (cl := cl) (fp := fp)) k3)) pa_nil rfl) rfl) (by decide) rfl rfl).mono
      fun σ H Q ⟨c, k, e1, e2, q⟩ => ⟨.int c, e1, .int k, e2, 977, k, rfl, rfl, .inl ⟨by decide, by decide⟩, q⟩) (fun _ => rfl))) pss_nil, ?_⟩
  have hσ : L2.start N [.ref a, .int m] = [some (.ref a), some (.int m), none, none] := by rw [hN]; rfl
  rw [hσ]
  -- script[:most] + [0]
  refine ⟨.ref a, rfl, .int m, rfl, m, rfl, a, ns.map V.int, rfl, hS, fun c1 n1 => ?_⟩
  rw [cut_take ns hm0]
  refine ⟨by decide, fun c2 n2 => ?_⟩
  have kp1 := same_upd (o := .lst ((ns.take m.toNat).map V.int)) n1
  have kp2 := same_upd (o := .lst [V.int 0]) n2
  have e1 : (upd (upd H c1 (.lst ((ns.take m.toNat).map V.int))) c2 (.lst [V.int 0])) c1 = some (.lst ((ns.take m.toNat).map V.int)) := kp2 _ _ upd_same
  refine ⟨c1, c2, _, _, rfl, rfl, .inl e1, .inl upd_same, ?_, fun c3 n3 => ?_⟩
  · rw [List.length_map, List.length_take, sizeLine_eq]; simp; omega
  have ecat : (ns.take m.toNat).map V.int ++ [V.int 0] = (ns.take m.toNat ++ [0]).map V.int := by rw [List.map_append]; rfl
  rw [ecat]
  generalize hcells : ns.take m.toNat ++ [0] = cells at *
  have hclen : cells.length ≤ 64 := by rw [← hcells, List.length_append, List.length_take]; simp; omega
  generalize hH3 : upd (upd (upd H c1 (.lst ((ns.take m.toNat).map V.int))) c2 (.lst [V.int 0])) c3 (.lst (cells.map V.int)) = H3
  have kp3 : ∀ b o, H b = some o → H3 b = some o := fun b o e => by rw [← hH3]; exact same_upd n3 _ _ (kp2 _ _ (kp1 _ _ e))
  have hc3 : H3 c3 = some (.lst (cells.map V.int)) := by rw [← hH3]; exact upd_same
  refine ⟨c3, cells.map V.int, rfl, .inl (.inl hc3), fun D nD => ?_⟩
  refine ⟨fun i mm H' => mm = cells.length - i ∧ i ≤ cells.length ∧ ∃ ps : List Addr, ps.length = i ∧ H' D = some (.lst (ps.map V.ref)) ∧ H' c3 = some (.lst (cells.map V.int)) ∧ (∀ b o, H b = some o → H' b = some o) ∧ ps.Nodup ∧ D ∉ ps ∧ H D = none ∧
    ∀ (j : Nat) q c, ps[j]? = some q → cells[j]? = some c → H q = none ∧ BagAt H' q (wellI c (977 * j)), ⟨_, rfl, Nat.zero_le _, [], rfl, upd_same, ?_, ?_, List.nodup_nil, by simp, ?_, fun j q c h => by simp at h⟩, ?_⟩
  · exact same_upd nD _ _ hc3
  · exact fun b o e => same_upd nD _ _ (kp3 b o e)
  · cases e : H D with
    | none => rfl
    | some o => rw [kp3 _ _ e] at nD; cases nD
  rintro i mm H' ⟨rfl, hi, ps, p1, p2, p3, p4, p5, p6, p7, p8⟩
  by_cases hlt : i < cells.length
  · have hx : (cells.map V.int)[i]? = some (.int cells[i]) := by rw [List.getElem?_map, List.getElem?_eq_getElem hlt]; rfl
    refine .inr ⟨⟨_, _, .inl (.inl p3), hx⟩, fun H5 => i + 1 ≤ cells.length ∧ ∃ ps : List Addr, ps.length = i + 1 ∧ H5 D = some (.lst (ps.map V.ref)) ∧ H5 c3 = some (.lst (cells.map V.int)) ∧ (∀ b o, H b = some o → H5 b = some o) ∧ ps.Nodup ∧ D ∉ ps ∧ H D = none ∧
      ∀ (j : Nat) q c, ps[j]? = some q → cells[j]? = some c → H q = none ∧ BagAt H5 q (wellI c (977 * j)), ?_, ?_⟩
    · rintro H5 ⟨h5, w5⟩
      exact ⟨cells.length - (i + 1), by omega, rfl, h5, w5⟩
    · rintro v H2 ⟨T, x, rfl, nT, rfl, fx⟩
      have ex : x = .int cells[i] := by have := fx _ (.inl (.inl p3)); rw [hx] at this; exact (Option.some.inj this).symm
      subst ex
      have kT := same_upd (o := .tup [V.int (i : Nat), V.int cells[i]]) nT
      refine ⟨T, [.int (i : Nat), .int cells[i]], rfl, .inl (.inl upd_same), rfl, _, _, rfl, _, _, rfl, rfl, ?_⟩
      refine ⟨rfl, ?_⟩
      show ∃ c k, _ ∧ _ ∧ _
      refine ⟨cells[i], (i : Nat), rfl, rfl, cells[i], 977 * (i : Nat), rfl, fun q H4 kq nq hq => ?_⟩
      have hD4 : H4 D = some (.lst (ps.map V.ref)) := kq _ _ (kT _ _ p2)
      have nqH : H q = none := by
        cases e : H q with
        | none => rfl
        | some o => rw [kT _ _ (p4 _ _ e)] at nq; cases nq
      have hqps : q ∉ ps := fun hm => by
        obtain ⟨j, hj⟩ := List.mem_iff_getElem?.mp hm
        have hj' : j < cells.length := by have := (List.getElem?_eq_some_iff.mp hj).1; omega
        have := (p8 j q cells[j] hj (List.getElem?_eq_getElem hj')).2
        rw [kT _ _ this] at nq; cases nq
      have hqD : q ≠ D := fun z => by subst z; rw [kT _ _ p2] at nq; cases nq
      have hqc : q ≠ c3 := fun z => by subst z; rw [kT _ _ p3] at nq; cases nq
      have hc4 : H4 c3 = some (.lst (cells.map V.int)) := kq _ _ (kT _ _ p3)
      have hDc : c3 ≠ D := fun z => by subst z; rw [hc3] at nD; cases nD
      refine ⟨ps.map V.ref, hD4, by rw [List.length_map, sizeLine_eq]; omega, hlt, ps ++ [q], by rw [List.length_append]; simp [p1], ?_, ?_, ?_, ?_, ?_, p7, ?_⟩
      · rw [upd_same, List.map_append]; rfl
      · rw [upd_ne hDc]; exact hc4
      · intro b ob e
        have : b ≠ D := fun z => by subst z; rw [p7] at e; cases e
        rw [upd_ne this]; exact kq _ _ (kT _ _ (p4 _ _ e))
      · exact List.nodup_append.mpr ⟨p5, by simp, fun x hx y hy => by simp at hy; subst hy; exact fun z => hqps (z ▸ hx)⟩
      · simp; exact ⟨p6, fun z => hqD z.symm⟩
      · intro j q' c' hj hc'
        by_cases hji : j < i
        · rw [List.getElem?_append_left (by omega)] at hj
          obtain ⟨a1, a2⟩ := p8 j q' c' hj hc'
          have : q' ≠ D := fun z => p6 (z ▸ List.mem_of_getElem? hj)
          exact ⟨a1, by unfold BagAt; rw [upd_ne this]; exact kq _ _ (kT _ _ a2)⟩
        · rw [List.getElem?_append_right (by omega)] at hj
          have hj0 : j = i := by
            have := (List.getElem?_eq_some_iff.mp hj).1
            simp at this; omega
          subst hj0
          rw [show j - ps.length = 0 by omega] at hj
          have eq : q = q' := by simpa using hj
          subst eq
          rw [List.getElem?_eq_getElem hlt] at hc'
          cases hc'
          exact ⟨nqH, by unfold BagAt; rw [upd_ne hqD]; exact hq⟩
  · have ei : i = cells.length := by omega
    subst ei
    exact .inl ⟨⟨_, .inl (.inl p3), by rw [List.length_map]; exact Nat.le_refl _⟩, q D ps H' p4 p7 p2 p1 p5 p6 p8⟩
end
end WM
set_option Elab.async false
set_option linter.all false
set_option maxRecDepth 100000
set_option maxHeartbeats 4000000
/-! WmY: the law's own def. -/
namespace WM
open PySem PySem.Spec PyProof.Rows L2 PySem.W PySem.SeqAt

/-- the text of a law over its bags -/
def lawB (cc : CC) (b : Ss) (i : Nat) (m : Int) : List Stmt → Bool
  | [.For (.Name n _) (.Call (.Name g _) [.Name s _, .Constant (.int k) _ _] [] _) body [] _, .Return (some (.Constant (.bool t) _ _)) _] => stB cc i n && decide (g = "_law_bags") && glB cc g && nmB cc 0 s && decide (k = m) && okSs cc b body && t
  | _ => false
/-- the slots at the entry of the loop's body -/
def bagEnv (n i : Nat) (xs : List Int) : Env := (List.replicate n SV.un).set i (.bo (xs.map PyData.int))
def spLaw (K : PySem.W.Frag) : Sp := fun vs H Q _ => ∃ (a : Addr) (ns : List Int), vs = [.ref a] ∧ SqL K H a (ns.map V.int) ∧ ns.length ≤ 63 ∧ ∀ H', Q (.bl true) H'
section
variable {P : Program} {w : World} {K : PySem.W.Frag} {mg : Str → Option Value} {base : Heap}
theorem rel_bag {X : Cx} {H : Hp} {n i : Nat} {σ : L2.St} {q : Addr} {xs : List Int} (hl : σ.length = n) (hi : i < n) (h : H q = some (.lst (xs.map V.int))) : Rel X H (some q) (bagEnv n i xs) (σ.set i (some (.ref q))) H := by
  have at_ : ∀ (j : Nat) (sv : SV), (bagEnv n i xs)[j]? = some sv → (j = i ∧ sv = .bo (xs.map PyData.int)) ∨ sv = .un := fun j sv e => by
    unfold bagEnv at e
    rw [getElem?_set_cases] at e
    split at e
    · rename_i z; cases e; exact .inl ⟨z.1.symm, rfl⟩
    · rw [List.getElem?_replicate] at e
      split at e
      · cases e; exact .inr rfl
      · cases e
  have own : ∀ (f : Option SV → Bool), f (some .un) = false → f none = false → ∀ j : Nat, f (bagEnv n i xs)[j]? = true → j = i := fun f h1 h2 j hj => by
    cases q : (bagEnv n i xs)[j]? with
    | none => rw [q, h2] at hj; cases hj
    | some sv =>
      rcases at_ j sv q with ⟨z, _⟩ | rfl
      · exact z
      · rw [q, h1] at hj; cases hj
  have ds : ∀ ns : List Int, DnA X.w X.K H (ns.map V.int) (ns.map PyData.int) := by
    intro ns
    induction ns with
    | nil => exact .nil
    | cons a ns ih => exact .cons (.int a) ih
  have get : (σ.set i (some (.ref q)))[i]? = some (some (.ref q)) := List.getElem?_set_self (by omega)
  refine ⟨by unfold bagEnv; simp [hl], fun j sv e => ?_, fun j k a hj hk _ _ => by rw [own isOwn rfl rfl j hj, own isOwn rfl rfl k hk], fun j a hj e => ?_, fun j a hj e => ?_, fun b o e _ => e, fun a ha => by cases ha; exact ⟨_, h⟩, fun a ha => by cases ha; rw [h]; exact fun z => nomatch z⟩
  · rcases at_ j sv e with ⟨rfl, rfl⟩ | rfl
    · exact ⟨q, _, get, h, ds xs⟩
    · exact True.intro
  · have := own isNew rfl rfl j hj
    subst this
    cases z : (bagEnv n j xs)[j]? with
    | none => rw [z] at hj; cases hj
    | some sv =>
      rcases at_ j sv z with ⟨_, rfl⟩ | rfl
      · rw [z] at hj; cases hj
      · rw [z] at hj; cases hj
  · have := own isBo rfl rfl j hj
    subst this
    rw [get] at e
    cases e; rfl
theorem ok_law {own : Str} {fa : Addr} {fd : FuncData} {st : Stmt} {ps N : List Str} {b : Ss} {k ib : Nat} {m : Int} {pb : List Str} (F : Fun K own own st fa fd) (hps : ps.length = 1) (hb : ∀ x ∈ bnames, mg x = none) (hsc : scB N ps (defScope st) = true) (hok : lawB ⟨N, defScope st, defScope st⟩ b ib m (defBody st) = true) (hib : ib < N.length) (hm0 : 0 ≤ m) (hm1 : m ≤ 100) (hk : 2 ≤ k)
    (wf : wfSs (HP P w K mg base k) (HB P w K mg base k) (HG w K mg) b)
    (hbags : ∃ fa fd, mg "_law_bags" = some (.ref fa) ∧ FnOk P w K mg base CX0 2 fa fd pb (spBags K) ∧ PySem.W.keepIn K (.ref fa) = true ∧ Binds K fd pb [])
    (hmath : ∀ ns : List Int, ns.length ≤ 63 → ∀ (i : Nat) (c : Int), (ns.take m.toNat ++ [0])[i]? = some c → ∃ ρ', denSs b (bagEnv N.length ib (wellI c (977 * i))) = some (.nx, ρ') ∧ ρ'.length = N.length) :
    FnOk P w K mg base CX0 (k + 1) fa fd ps (spLaw K) := by
  obtain ⟨ba, bd, b1, b2, b3, b4⟩ := hbags
  have S := sc_of hsc
  refine F.ok S (fun vs H Q E h => by obtain ⟨a, ns, rfl, _⟩ := h; exact hps.symm) (fun cdv A outer s H vs Q E hr h => ?_)
  obtain ⟨a, ns, rfl, hS, hns, q⟩ := h
  have o := okx_of (P := P) (w := w) (K := K) (base := base) (qual := own) (f := fa) (cdv := cdv) (outer := outer) (E := E) (H := H) S hb hr
  have hpl : ps.length ≤ N.length := by have := congrArg List.length S.pre; rw [List.length_take] at this; omega
  unfold lawB at hok
  split at hok
  case h_2 => cases hok
  rename_i heq
  rw [heq]
  simp only [Bool.and_eq_true, decide_eq_true_eq] at hok
  obtain ⟨⟨⟨⟨⟨⟨k1, rfl⟩, k2⟩, k3⟩, rfl⟩, k4⟩, rfl⟩ := hok
  refine ⟨_, pss_cons (ps_for PassesOwn.never o.calm (pi_list (pe_call (sp := spBags K) (E := E0) (b2.mono hk) o.room (o.gl k2) b1 b3 b4 .nil pass0 (pa_cons (pe_slot o k3) (pa_cons pe_int pa_nil rfl) rfl) (by decide) rfl rfl)) (pg_nm o k1) (sSs b _ o k4 wf) (fun _ => rfl)) (pss_cons (ps_ret pe_bl) pss_nil), ?_⟩
  have hσ : (L2.start N [.ref a])[0]? = some (some (.ref a)) := by
    rw [start_get, dif_pos (by simp)]; rfl
  have hσl : (L2.start N [.ref a]).length = N.length := by unfold L2.start; simp; omega
  refine ⟨.ref a, hσ, a, ns, _, rfl, hS, hm0, hm1, hns, fun p pp H1 kp nP eP hlen hnd hpn hbag => ?_⟩
  generalize hcells : (List.take (Int.toNat _) ns ++ [0]) = cells at hlen hbag
  refine ⟨p, rfl, ⟨_, .inl (.inl eP)⟩, ?_⟩
  refine ⟨fun i mm σ' H' => mm = pp.length - i ∧ i ≤ pp.length ∧ σ'.length = N.length ∧ H' p = some (.lst (pp.map V.ref)) ∧ ∀ (j : Nat) q c, i ≤ j → pp[j]? = some q → cells[j]? = some c → BagAt H' q (wellI c (977 * j)),
    ⟨_, rfl, Nat.zero_le _, hσl, eP, fun j q c _ hj hc => (hbag j q c hj hc).2⟩, ?_⟩
  rintro i mm σ' H' ⟨rfl, hi, g1, g2, g3⟩
  by_cases hlt : i < pp.length
  · have hx : (pp.map V.ref)[i]? = some (.ref pp[i]) := by rw [List.getElem?_map, List.getElem?_eq_getElem hlt]; rfl
    refine .inr ⟨⟨_, _, .inl (.inl g2), hx⟩, fun σ5 H5 => i + 1 ≤ pp.length ∧ σ5.length = N.length ∧ H5 p = some (.lst (pp.map V.ref)) ∧ ∀ (j : Nat) q c, i + 1 ≤ j → pp[j]? = some q → cells[j]? = some c → BagAt H5 q (wellI c (977 * j)), ?_, ?_⟩
    · rintro σ5 H5 ⟨h5, w5⟩
      exact ⟨pp.length - (i + 1), by omega, rfl, h5, w5⟩
    · rintro v H2 ⟨rfl, fx⟩
      have ex : v = .ref pp[i] := by have := fx _ (.inl (.inl g2)); rw [hx] at this; exact (Option.some.inj this).symm
      subst ex
      have hci : i < cells.length := by omega
      have hb1 := g3 i pp[i] cells[i] (Nat.le_refl _) (List.getElem?_eq_getElem hlt) (List.getElem?_eq_getElem hci)
      obtain ⟨ρ', hd, hl'⟩ := hmath ns hns i cells[i] (by rw [hcells]; exact List.getElem?_eq_getElem hci)
      refine ⟨H2, some pp[i], _, (.nx, ρ'), hd, rel_bag g1 hib hb1, fun σ5 H5 R5 e5 => ⟨hlt, by rw [← R5.len]; exact hl', ?_, fun j q c hj hq hc => ?_⟩⟩
      · have : pp[i] ≠ p := fun z => hpn (z ▸ List.getElem_mem hlt)
        exact R5.frame p _ g2 fun z => this (Option.some.inj z)
      · have hne : pp[i] ≠ q := fun z => by
          obtain ⟨hj', e'⟩ := List.getElem?_eq_some_iff.mp hq
          have : i = j := (List.getElem?_inj hlt hnd).mp (by rw [List.getElem?_eq_getElem hlt, hq, z])
          omega
        exact R5.frame q _ (g3 j q c (by omega) hq hc) fun z => hne (Option.some.inj z)
  · have ei : i = pp.length := by omega
    subst ei
    exact .inl ⟨⟨_, .inl (.inl g2), by rw [List.length_map]; exact Nat.le_refl _⟩, q H'⟩
end
end WM
set_option Elab.async false
set_option linter.all false
set_option maxRecDepth 100000
set_option maxHeartbeats 4000000
/-! WmZ: draws, in plain Lean. -/
namespace WM
open PySem PySem.Spec PyProof.Rows L2 PySem.W PySem.SeqAt

theorem cmp_ok_int (a b : Int) : cmpOk (.int a) (.int b) = true := by simp [cmpOk, alike, isNone, shallow, PyData.plain, PyData.depth]
theorem cmp_lt (a b : Int) : evCmp .lt (.int a) (.int b) = some (decide (a < b)) := by
  have e : evCmp .lt (.int a) (.int b) = if cmpOk (.int a) (.int b) then some (dataLt (.int a) (.int b)) else none := rfl
  rw [e, cmp_ok_int, lt_int]; rfl
theorem cmp_gt (a b : Int) : evCmp .gt (.int a) (.int b) = some (decide (b < a)) := by
  have e : evCmp .gt (.int a) (.int b) = if cmpOk (.int a) (.int b) then some (dataLt (.int b) (.int a)) else none := rfl
  rw [e, cmp_ok_int, lt_int]; rfl
theorem cmp_le (a b : Int) : evCmp .le (.int a) (.int b) = some (decide (a ≤ b)) := by
  have e : evCmp .le (.int a) (.int b) = if cmpOk (.int a) (.int b) then some (!dataLt (.int b) (.int a)) else none := rfl
  rw [e, cmp_ok_int, lt_int]
  by_cases h : b < a
  · rw [decide_eq_true h, decide_eq_false (by omega)]; rfl
  · rw [decide_eq_false h, decide_eq_true (by omega)]; rfl
theorem ev_add (a b : Int) : evBin .add (.int a) (.int b) = some (.int (a + b)) := rfl
theorem ev_mod {a b : Int} (h : 0 < b) : evBin .mod (.int a) (.int b) = some (.int (a % b)) := by
  show (if 0 < b then some (PyData.int (a % b)) else none) = _
  rw [if_pos h]
theorem ev_fdiv {a b : Int} (h : 0 < b) (h2 : b < 1073741824) : evBin .fdiv (.int a) (.int b) = some (.int (a / b)) := by
  show (if 0 < b ∧ b < 1073741824 then some (PyData.int (a / b)) else none) = _
  rw [if_pos ⟨h, h2⟩]
theorem ev_mul {a b : Int} (h : -(2 ^ 64) < a ∧ a < 2 ^ 64) : evBin .mul (.int a) (.int b) = some (.int (a * b)) := by
  show (if (big a || big b) = true then some (PyData.int (a * b)) else none) = _
  rw [if_pos (by rw [Bool.or_eq_true]; exact .inl (decide_eq_true h))]
theorem ev_pow {a b : Int} (h : 0 ≤ b) (h2 : b ≤ 1000000) (h3 : a.natAbs < 2 ^ 64) : evBin .pow (.int a) (.int b) = some (.int (a ^ b.toNat)) := by
  show (if 0 ≤ b ∧ b ≤ 1000000 ∧ a.natAbs < 2 ^ 64 then some (PyData.int (a ^ b.toNat)) else none) = _
  rw [if_pos ⟨h, h2, h3⟩]
def ilTake : Ss :=
  .cons (.ite (.val (.cmp .gt (.oIdx 0 (.int 0)) (.int 0))) (.cons (.asg 4 (.bin .mod (.oIdx 0 (.int 0)) (.var 1)))
  (.cons (.setB 0 (.int 0) (.bin .fdiv (.oIdx 0 (.int 0)) (.var 1)))
  (.cons (.ret (.var 4)) .nil))) (.nil))
  (.cons (.setB 0 (.int 2) (.bin .add (.oIdx 0 (.int 2)) (.int 1)))
  (.cons (.asg 2 (.int 2305843009213693951))
  (.cons (.asg 3 (.bin .mod (.bin .add (.oIdx 0 (.int 1)) (.bin .mul (.int 1000003) (.oIdx 0 (.int 2)))) (.var 2)))
  (.cons (.asg 3 (.bin .mod (.bin .add (.bin .add (.bin .mul (.var 3) (.var 3)) (.bin .mul (.int 7919) (.bin .pow (.oIdx 0 (.int 2)) (.int 2)))) (.int 5)) (.var 2)))
  (.cons (.ret (.bin .mod (.bin .fdiv (.bin .mod (.bin .pow (.var 3) (.int 3)) (.var 2)) (.int 13)) (.var 1))) .nil)))))
def takeF : FB := runB ilTake 5 2
/-- a bag as it stands, t draws at most -/
def bagD (a b t : Int) : List D := [.int a, .int b, .int t]
theorem idx0 (a b t : Int) : evIdx (.list (bagD a b t)) (.int 0) = some (.int a) := rfl
theorem idx1 (a b t : Int) : evIdx (.list (bagD a b t)) (.int 1) = some (.int b) := rfl
theorem idx2 (a b t : Int) : evIdx (.list (bagD a b t)) (.int 2) = some (.int t) := rfl
theorem take_big {a b t many : Int} (ha : 0 < a) (h1 : 0 < many) (h2 : many < 1073741824) : takeF (bagD a b t) [.int many] = some (.int (a % many), bagD (a / many) b t) := by
  have e : runB ilTake 5 2 (bagD a b t) [.int many] = (denSs ilTake [.bo (bagD a b t), .d (.int many), .un, .un, .un]).bind fun (o, ρ) => (lentOf ρ[0]?).bind fun xs' => some (outOf o, xs') := rfl
  unfold takeF
  rw [e]
  simp only [ilTake, denSs, denS, denT, den, rdVar, isOwn, List.getElem?_cons_zero, List.getElem?_cons_succ, Option.bind_some, if_true, idx0, cmp_gt, ha, decide_true, truth, ev_mod h1, ev_fdiv h1 h2, asInt, List.set_cons_zero, List.set_cons_succ]
  rfl
theorem take_low {b t many : Int} (h1 : 0 < many) (hb : 0 ≤ b ∧ b < two61) (ht : 0 ≤ t ∧ t < 2 ^ 60) : ∃ r, 0 ≤ r ∧ r < many ∧ takeF (bagD 0 b t) [.int many] = some (.int r, bagD 0 b (t + 1)) := by
  have e : runB ilTake 5 2 (bagD 0 b t) [.int many] = (denSs ilTake [.bo (bagD 0 b t), .d (.int many), .un, .un, .un]).bind fun (o, ρ) => (lentOf ρ[0]?).bind fun xs' => some (outOf o, xs') := rfl
  have hp : (0 : Int) < 2305843009213693951 := by decide
  have hset : (bagD 0 b t).set (Int.toNat 2) (.int (t + 1)) = bagD 0 b (t + 1) := rfl
  have hlen : (0 : Int) ≤ 2 ∧ Int.toNat 2 < (bagD 0 b t).length := ⟨by decide, by show 2 < 3; decide⟩
  generalize hn : (b + 1000003 * (t + 1)) % 2305843009213693951 = n
  have hn0 : 0 ≤ n ∧ n < 2305843009213693951 := by rw [← hn]; exact ⟨Int.emod_nonneg _ (by decide), Int.emod_lt_of_pos _ hp⟩
  generalize hn2 : (n * n + 7919 * (t + 1) ^ (Int.toNat 2) + 5) % 2305843009213693951 = n2
  have hn20 : 0 ≤ n2 ∧ n2 < 2305843009213693951 := by rw [← hn2]; exact ⟨Int.emod_nonneg _ (by decide), Int.emod_lt_of_pos _ hp⟩
  refine ⟨n2 ^ (Int.toNat 3) % 2305843009213693951 / 13 % many, Int.emod_nonneg _ (by omega), Int.emod_lt_of_pos _ h1, ?_⟩
  unfold takeF
  rw [e]
  have m1 : evBin .mul (.int 1000003) (.int (t + 1)) = some (.int (1000003 * (t + 1))) := ev_mul ⟨by decide, by decide⟩
  have m2 : evBin .mul (.int n) (.int n) = some (.int (n * n)) := ev_mul ⟨by omega, by omega⟩
  have m3 : evBin .mul (.int 7919) (.int ((t + 1) ^ (Int.toNat 2))) = some (.int (7919 * (t + 1) ^ (Int.toNat 2))) := ev_mul ⟨by decide, by decide⟩
  have p1 : evBin .pow (.int (t + 1)) (.int 2) = some (.int ((t + 1) ^ (Int.toNat 2))) := ev_pow (by decide) (by decide) (by omega)
  have p2 : evBin .pow (.int n2) (.int 3) = some (.int (n2 ^ (Int.toNat 3))) := ev_pow (by decide) (by decide) (by omega)
  have d1 : ∀ x : Int, evBin .fdiv (.int x) (.int 13) = some (.int (x / 13)) := fun x => ev_fdiv (by decide) (by decide)
  simp only [ilTake, denSs, denS, denT, den, rdVar, isOwn, List.getElem?_cons_zero, List.getElem?_cons_succ, Option.bind_some, if_true, idx0, idx1, idx2, cmp_gt, Int.lt_irrefl, decide_false, truth, Bool.false_eq_true, if_false, ev_add, asInt, if_pos hlen, hset, List.set_cons_zero, List.set_cons_succ, m1, m2, m3, p1, p2, d1, ev_mod hp, ev_mod h1, hn, hn2]
  rfl
end WM
set_option Elab.async false
set_option linter.all false
set_option maxRecDepth 100000
set_option maxHeartbeats 4000000
/-! WmZ2: the evaluator's functions on data that have a Lean type. -/
namespace WM
open PySem PySem.W

section
variable {α : Type} [DecidableEq α]
theorem toD_inj [Datum α] {a b : α} (h : Datum.toD a = Datum.toD b) : a = b := by
  have e := Datum.eqv a b
  rw [h, Datum.eqv, decide_eq_true rfl] at e
  exact of_decide_eq_true e.symm
theorem shallow_toD [Datum α] (hd : Datum.depth α ≤ 50) (a : α) : shallow (Datum.toD a) = true := by
  have := Datum.depth_le a
  simp only [shallow, Datum.plain, Bool.true_and, decide_eq_true_eq]
  omega
theorem ev_eqD [Datum α] (hd : Datum.depth α ≤ 50) (a b : α) : evCmp .eq (Datum.toD a) (Datum.toD b) = some (decide (a = b)) := by
  have e : evCmp .eq (Datum.toD a) (Datum.toD b) = if shallow (Datum.toD a) && shallow (Datum.toD b) then some (PyData.eqv (Datum.toD a) (Datum.toD b)) else none := rfl
  rw [e, shallow_toD hd, shallow_toD hd, Datum.eqv]; rfl
theorem ev_neD [Datum α] (hd : Datum.depth α ≤ 50) (a b : α) : evCmp .ne (Datum.toD a) (Datum.toD b) = some (decide (a ≠ b)) := by
  have e : evCmp .ne (Datum.toD a) (Datum.toD b) = if shallow (Datum.toD a) && shallow (Datum.toD b) then some (!PyData.eqv (Datum.toD a) (Datum.toD b)) else none := rfl
  rw [e, shallow_toD hd, shallow_toD hd, Datum.eqv]
  by_cases h : a = b <;> simp [h]
theorem plainAll_toD [Datum α] : ∀ xs : List α, PyData.plainAll (xs.map Datum.toD) = true
  | [] => rfl
  | x :: xs => by rw [List.map_cons, PyData.plainAll, Datum.plain, plainAll_toD xs]; rfl
theorem depthAll_toD [Datum α] : ∀ xs : List α, PyData.depthAll (xs.map Datum.toD) ≤ Datum.depth α
  | [] => Nat.zero_le _
  | x :: xs => by
    rw [List.map_cons, PyData.depthAll]
    exact Nat.max_le.mpr ⟨Datum.depth_le x, depthAll_toD xs⟩
theorem ev_inT [Datum α] (hd : Datum.depth α ≤ 50) (a : α) (xs : List α) : evIn (Datum.toD a) (.tuple (xs.map Datum.toD)) = some (decide (a ∈ xs)) := by
  have e : evIn (Datum.toD a) (.tuple (xs.map Datum.toD)) = if shallow (Datum.toD a) && PyData.plainAll (xs.map Datum.toD) then some ((xs.map Datum.toD).any fun y => PyData.eqv y (Datum.toD a)) else none := rfl
  rw [e, shallow_toD hd, plainAll_toD, any_datum]; rfl
theorem ev_inL [Datum α] (hd : Datum.depth α ≤ 50) (a : α) (xs : List α) : evIn (Datum.toD a) (.list (xs.map Datum.toD)) = some (decide (a ∈ xs)) := by
  have e : evIn (Datum.toD a) (.list (xs.map Datum.toD)) = if shallow (Datum.toD a) && PyData.plainAll (xs.map Datum.toD) then some ((xs.map Datum.toD).any fun y => PyData.eqv y (Datum.toD a)) else none := rfl
  rw [e, shallow_toD hd, plainAll_toD, any_datum]; rfl
theorem notNone_toD [DatumOrd α] (a : α) : isNone (Datum.toD a) = false := by
  cases h : Datum.toD a with
  | none => exact absurd h (DatumOrd.notNone a)
  | _ => rfl
theorem cmpOk_toD [DatumOrd α] (hd : Datum.depth α ≤ 50) (a b : α) : cmpOk (Datum.toD a) (Datum.toD b) = true := by
  unfold cmpOk
  rw [DatumOrd.alike, notNone_toD, shallow_toD hd, shallow_toD hd]; rfl
theorem ev_ltD [DatumOrd α] (hd : Datum.depth α ≤ 50) (a b : α) : evCmp .lt (Datum.toD a) (Datum.toD b) = some (DatumOrd.lt a b) := by
  have e : evCmp .lt (Datum.toD a) (Datum.toD b) = if cmpOk (Datum.toD a) (Datum.toD b) then some (dataLt (Datum.toD a) (Datum.toD b)) else none := rfl
  rw [e, cmpOk_toD hd, DatumOrd.lt_eq]; rfl
theorem ev_gtD [DatumOrd α] (hd : Datum.depth α ≤ 50) (a b : α) : evCmp .gt (Datum.toD a) (Datum.toD b) = some (DatumOrd.lt b a) := by
  have e : evCmp .gt (Datum.toD a) (Datum.toD b) = if cmpOk (Datum.toD a) (Datum.toD b) then some (dataLt (Datum.toD b) (Datum.toD a)) else none := rfl
  rw [e, cmpOk_toD hd, DatumOrd.lt_eq]; rfl
theorem allAlike_toD [DatumOrd α] (xs : List α) : allAlike (xs.map Datum.toD) = true := by
  unfold allAlike
  rw [List.all_eq_true]
  intro x hx
  rw [List.all_eq_true]
  intro y hy
  obtain ⟨a, _, rfl⟩ := List.mem_map.mp hx
  obtain ⟨b, _, rfl⟩ := List.mem_map.mp hy
  exact DatumOrd.alike a b
/-- the first least -/
def minO [DatumOrd α] (x : α) (xs : List α) : α := xs.foldl (fun a y => if DatumOrd.lt y a then y else a) x
theorem minD_toD [DatumOrd α] (x : α) (xs : List α) : minD (Datum.toD x) (xs.map Datum.toD) = Datum.toD (minO x xs) := by
  unfold minD minO
  induction xs generalizing x with
  | nil => rfl
  | cons y ys ih =>
    rw [List.map_cons, List.foldl_cons, List.foldl_cons, DatumOrd.lt_eq]
    cases h : DatumOrd.lt y x with
    | true => exact ih y
    | false => exact ih x
theorem minL_toD [DatumOrd α] (hd : Datum.depth α ≤ 50) (x : α) (xs : List α) : minL ((x :: xs).map Datum.toD) = some (Datum.toD (minO x xs)) := by
  have e : minL ((x :: xs).map Datum.toD) = if allAlike ((x :: xs).map Datum.toD) && PyData.plainAll ((x :: xs).map Datum.toD) && decide (PyData.depthAll ((x :: xs).map Datum.toD) ≤ 50) && !isNone (Datum.toD x) then some (minD (Datum.toD x) (xs.map Datum.toD)) else none := rfl
  rw [e, allAlike_toD, plainAll_toD, notNone_toD, decide_eq_true (Nat.le_trans (depthAll_toD (x :: xs)) hd), minD_toD]; rfl
def maxO [DatumOrd α] (x : α) (xs : List α) : α := xs.foldl (fun a y => if DatumOrd.lt a y then y else a) x
theorem maxD_toD [DatumOrd α] (x : α) (xs : List α) : maxD (Datum.toD x) (xs.map Datum.toD) = Datum.toD (maxO x xs) := by
  unfold maxD maxO
  induction xs generalizing x with
  | nil => rfl
  | cons y ys ih =>
    rw [List.map_cons, List.foldl_cons, List.foldl_cons, DatumOrd.lt_eq]
    cases h : DatumOrd.lt x y with
    | true => exact ih y
    | false => exact ih x
theorem maxL_toD [DatumOrd α] (hd : Datum.depth α ≤ 50) (x : α) (xs : List α) : maxL ((x :: xs).map Datum.toD) = some (Datum.toD (maxO x xs)) := by
  have e : maxL ((x :: xs).map Datum.toD) = if allAlike ((x :: xs).map Datum.toD) && PyData.plainAll ((x :: xs).map Datum.toD) && decide (PyData.depthAll ((x :: xs).map Datum.toD) ≤ 50) && !isNone (Datum.toD x) then some (maxD (Datum.toD x) (xs.map Datum.toD)) else none := rfl
  rw [e, allAlike_toD, plainAll_toD, notNone_toD, decide_eq_true (Nat.le_trans (depthAll_toD (x :: xs)) hd), maxD_toD]; rfl
/-! dicts -/
variable {β : Type}
theorem dget_toD [Datum α] (f : β → D) (kvs : List (α × β)) (k : α) : dget (kvs.map fun p => (Datum.toD p.1, f p.2)) (Datum.toD k) = (kvs.find? fun p => decide (p.1 = k)).map fun p => f p.2 := by
  unfold dget
  rw [List.find?_map]
  have : ((fun p : D × D => decide (p.1 = Datum.toD k)) ∘ fun p : α × β => (Datum.toD p.1, f p.2)) = fun p => decide (p.1 = k) := by
    funext p
    show decide (Datum.toD p.1 = Datum.toD k) = _
    by_cases h : p.1 = k
    · rw [h]; simp
    · rw [decide_eq_false h]; exact decide_eq_false fun z => h (toD_inj z)
  rw [this, Option.map_map]; rfl
end
/-! comprehensions that keep their slots -/
theorem lcGo_map {f : D → Env → Option (List D × Env)} {ρ : Env} {g : D → List D} : ∀ xs : List D, (∀ x ∈ xs, f x ρ = some (g x, ρ)) → lcGo f xs ρ = some (xs.flatMap g, ρ)
  | [], _ => rfl
  | x :: xs, h => by
    simp only [lcGo]
    rw [h x List.mem_cons_self, Option.bind_some, lcGo_map xs fun y hy => h y (List.mem_cons_of_mem _ hy)]
    rfl
/-- a loop that goes on all along -/
theorem loopGo_inv {f : D → Env → Option (Out × Env)} (I : List D → Env → Prop) : ∀ (xs : List D) (ρ : Env), I xs ρ → (∀ x ys ρ, I (x :: ys) ρ → ∃ ρ', f x ρ = some (.nx, ρ') ∧ I ys ρ') → ∃ ρ', loopGo f xs ρ = some (.nx, ρ') ∧ I [] ρ'
  | [], ρ, h, _ => ⟨ρ, rfl, h⟩
  | x :: xs, ρ, h, hs => by
    obtain ⟨ρ1, h1, h2⟩ := hs x xs ρ h
    obtain ⟨ρ2, h3, h4⟩ := loopGo_inv I xs ρ1 h2 hs
    refine ⟨ρ2, ?_, h4⟩
    simp only [loopGo]
    rw [h1, Option.bind_some]
    exact h3
/-- a loop as a fold: the slots are a function of a state -/
theorem loopGo_fold {γ : Type} {f : D → Env → Option (Out × Env)} {E : γ → Env} {s : γ → D → γ} : ∀ (xs : List D) (c : γ), (∀ c, ∀ x ∈ xs, f x (E c) = some (.nx, E (s c x))) → loopGo f xs (E c) = some (.nx, E (xs.foldl s c))
  | [], c, _ => rfl
  | x :: xs, c, h => by
    simp only [loopGo]
    rw [h c x List.mem_cons_self, Option.bind_some]
    exact loopGo_fold xs _ fun c y hy => h c y (List.mem_cons_of_mem _ hy)
/-! the evaluator's equations, but for loops -/
section
variable (ρ : Env) (i : Nat) (e k v : E) (is : List Nat) (es : Es) (t : T) (a b : Ss)
theorem dS_asg : denS (.asg i e) ρ = (den e ρ).bind fun (x, ρ1) => some (.nx, ρ1.set i (.d x)) := rfl
theorem dS_asgO : denS (.asgO i e) ρ = (den e ρ).bind fun (x, ρ1) => match x with
      | .list xs => some (.nx, ρ1.set i (.ol xs))
      | .dict kvs => some (.nx, ρ1.set i (.od kvs))
      | _ => none := rfl
theorem dS_asgD : denS (.asgD i) ρ = some (.nx, ρ.set i (.od [])) := rfl
theorem dS_asgT : denS (.asgT is e) ρ = (den e ρ).bind fun (x, ρ1) => match x with
      | .tuple xs => (storeAll ρ1 is xs).bind fun ρ2 => some (.nx, ρ2)
      | _ => none := rfl
theorem dS_par : denS (.par is es) ρ = (denEs es ρ).bind fun (xs, ρ1) => (storeAll ρ1 is xs).bind fun ρ2 => some (.nx, ρ2) := rfl
theorem dS_app : denS (.app i e) ρ = if isOl ρ[i]? then (den e ρ).bind fun (x, ρ1) => match ρ1[i]? with
      | some (.ol xs) => if lenOk xs then some (.nx, ρ1.set i (.ol (xs ++ [x]))) else none
      | _ => none else none := rfl
theorem dS_put : denS (.put i k v) ρ = (den v ρ).bind fun (vd, ρ1) => if isOwn ρ1[i]? then (den k ρ1).bind fun (kd, ρ2) => match ρ2[i]? with
      | some (.od kvs) => if fitsK kvs kd && decide (kvs.length ≤ 100000) then some (.nx, ρ2.set i (.od (dput kvs kd vd))) else none
      | _ => none else none := rfl
theorem dS_ret : denS (.ret e) ρ = (den e ρ).bind fun (x, ρ1) => some (.ret x, ρ1) := rfl
theorem dS_ite : denS (.ite t a b) ρ = (denT t ρ).bind fun (k, ρ1) => if k then denSs a ρ1 else denSs b ρ1 := rfl
theorem dS_exp : denS (.exp e) ρ = (den e ρ).bind fun (_, ρ1) => some (.nx, ρ1) := rfl
theorem dS_loop (g : Tg) (it : It) (kill : List Nat) : denS (.loop g it b kill) ρ = (denIt it ρ).bind fun (xs, ρ1) => loopGo (lpF g b kill) xs (wipeE ρ1 kill) := rfl
theorem dS_setB : denS (.setB i k e) ρ = (den e ρ).bind fun (x, ρ1) => if isOwn ρ1[i]? then (den k ρ1).bind fun (y, ρ2) => (asInt y).bind fun k => match ρ2[i]? with
      | some (.bo xs) => if 0 ≤ k ∧ k.toNat < xs.length then some (.nx, ρ2.set i (.bo (xs.set k.toNat x))) else none
      | _ => none else none := rfl
theorem lpF_eq (g : Tg) (kill : List Nat) (x : D) : lpF g b kill x ρ = (bindT ρ g x).bind fun ρ2 => (denSs b ρ2).bind fun (o, ρ3) => some (o, wipeE ρ3 kill) := rfl
end
end WM
set_option Elab.async false
set_option linter.all false
set_option maxRecDepth 100000
set_option maxHeartbeats 4000000
/-! WmO0: the evaluator's equations for expressions, one by one (printed by genE.py). -/
namespace WM
open PySem PySem.W

theorem dE_var i ρ : den (.var i) ρ = rdVar ρ i := rfl
theorem dE_glo z0 d ρ : den (.glo z0 d) ρ = some (d, ρ) := rfl
theorem dE_int i ρ : den (.int i) ρ = some (.int i, ρ) := rfl
theorem dE_str s ρ : den (.str s) ρ = some (.str s, ρ) := rfl
theorem dE_bl b ρ : den (.bl b) ρ = some (.bool b, ρ) := rfl
theorem dE_non  ρ : den (.non ) ρ = some (.none, ρ) := rfl
theorem dE_tup es ρ : den (.tup es) ρ = (denEs es ρ).bind fun (ds, ρ1) => some (.tuple ds, ρ1) := rfl
theorem dE_lst es ρ : den (.lst es) ρ = (denEs es ρ).bind fun (ds, ρ1) => some (.list ds, ρ1) := rfl
theorem dE_bin o a b ρ : den (.bin o a b) ρ = (den a ρ).bind fun (x, ρ1) => (den b ρ1).bind fun (y, ρ2) => (evBin o x y).bind fun z => some (z, ρ2) := rfl
theorem dE_neg a ρ : den (.neg a) ρ = (den a ρ).bind fun (x, ρ1) => (asInt x).bind fun i => some (.int (-i), ρ1) := rfl
theorem dE_cmp o a b ρ : den (.cmp o a b) ρ = (den a ρ).bind fun (x, ρ1) => (den b ρ1).bind fun (y, ρ2) => (evCmp o x y).bind fun z => some (.bool z, ρ2) := rfl
theorem dE_chn o1 o2 a b c ρ : den (.chn o1 o2 a b c) ρ = (den a ρ).bind fun (x, ρ1) => (den b ρ1).bind fun (y, ρ2) => (evCmp o1 x y).bind fun k =>
      if k then (den c ρ2).bind fun (z, ρ3) => (evCmp o2 y z).bind fun k2 => some (.bool k2, ρ3) else some (.bool false, ρ2) := rfl
theorem dE_and a b ρ : den (.and a b) ρ = (den a ρ).bind fun (x, ρ1) => (truth x).bind fun k => if k then den b ρ1 else some (.bool false, ρ1) := rfl
theorem dE_or a b ρ : den (.or a b) ρ = (den a ρ).bind fun (x, ρ1) => (truth x).bind fun k => if k then some (.bool true, ρ1) else den b ρ1 := rfl
theorem dE_nt a ρ : den (.nt a) ρ = (den a ρ).bind fun (x, ρ1) => (truth x).bind fun k => some (.bool (!k), ρ1) := rfl
theorem dE_ite t a b ρ : den (.ite t a b) ρ = (denT t ρ).bind fun (k, ρ1) => if k then den a ρ1 else den b ρ1 := rfl
theorem dE_call z0 F es ρ : den (.call z0 F es) ρ = (denEs es ρ).bind fun (ds, ρ1) => (F ds).bind fun d => some (d, ρ1) := rfl
theorem dE_callB z0 F i es ρ : den (.callB z0 F i es) ρ = if isOwn ρ[i]? then (denEs es ρ).bind fun (ds, ρ1) => match ρ1[i]? with
      | some (.bo xs) => (F xs ds).bind fun (d, xs') => some (d, ρ1.set i (.bo xs'))
      | _ => none else none := rfl
theorem dE_fn f a ρ : den (.fn f a) ρ = (den a ρ).bind fun (x, ρ1) => (evFn f x).bind fun z => some (z, ρ1) := rfl
theorem dE_fn2 f a b ρ : den (.fn2 f a b) ρ = (den a ρ).bind fun (x, ρ1) => (den b ρ1).bind fun (y, ρ2) => (evFn2 f x y).bind fun z => some (z, ρ2) := rfl
theorem dE_max3 a b c ρ : den (.max3 a b c) ρ = (den a ρ).bind fun (x, ρ1) => (den b ρ1).bind fun (y, ρ2) => (den c ρ2).bind fun (z, ρ3) => (maxL [x, y, z]).bind fun u => some (u, ρ3) := rfl
theorem dE_isi a ts ρ : den (.isi a ts) ρ = (den a ρ).bind fun (x, ρ1) => some (.bool (ts.any fun t => isTy t x), ρ1) := rfl
theorem dE_idx a b ρ : den (.idx a b) ρ = (den a ρ).bind fun (x, ρ1) => (den b ρ1).bind fun (y, ρ2) => (evIdx x y).bind fun z => some (z, ρ2) := rfl
theorem dE_cut a lo hi ρ : den (.cut a lo hi) ρ = (den a ρ).bind fun (x, ρ1) => (denO lo ρ1).bind fun (l, ρ2) => (denO hi ρ2).bind fun (h, ρ3) => (evCut x l h).bind fun z => some (z, ρ3) := rfl
theorem dE_step a k ρ : den (.step a k) ρ = (den a ρ).bind fun (x, ρ1) => (evStep x k).bind fun z => some (z, ρ1) := rfl
theorem dE_index a b ρ : den (.index a b) ρ = (den a ρ).bind fun (x, ρ1) => (den b ρ1).bind fun (y, ρ2) => match x with
      | .list xs => if keydL xs && keyd y && decide (y.depth ≤ 8) && decide (y ∈ xs) then some (.int (xs.idxOf y), ρ2) else none
      | _ => none := rfl
theorem dE_oIdx i b ρ : den (.oIdx i b) ρ = if isOwn ρ[i]? then (den b ρ).bind fun (y, ρ1) => match ρ1[i]? with
      | some (.ol xs) => (evIdx (.list xs) y).bind fun z => some (z, ρ1)
      | some (.bo xs) => (evIdx (.list xs) y).bind fun z => some (z, ρ1)
      | some (.od kvs) => (evIdx (.dict kvs) y).bind fun z => some (z, ρ1)
      | _ => none else match ρ[i]? with
      | some (.d x) => (den b ρ).bind fun (y, ρ1) => (evIdx x y).bind fun z => some (z, ρ1)
      | _ => none := rfl
theorem dE_oIn neg a i ρ : den (.oIn neg a i) ρ = (den a ρ).bind fun (x, ρ1) => match ρ1[i]? with
      | some (.od kvs) => (evIn x (.dict kvs)).bind fun k => some (.bool (if neg then !k else k), ρ1)
      | some (.d y) => (evIn x y).bind fun k => some (.bool (if neg then !k else k), ρ1)
      | _ => none := rfl
theorem dE_oGet i k x ρ : den (.oGet i k x) ρ = if isOd ρ[i]? then (den k ρ).bind fun (kd, ρ1) => (den x ρ1).bind fun (xd, ρ2) => match ρ2[i]? with
      | some (.od kvs) => (evGet kvs kd xd).bind fun z => some (z, ρ2)
      | _ => none else none := rfl
theorem dE_oLen i ρ : den (.oLen i) ρ = match ρ[i]? with
      | some (.ol xs) => some (.int xs.length, ρ)
      | some (.d x) => (evFn .len x).bind fun z => some (z, ρ)
      | _ => none := rfl
theorem dE_oCmp o i b ρ : den (.oCmp o i b) ρ = if isOwn ρ[i]? then (den b ρ).bind fun (y, ρ1) => match ρ1[i]? with
      | some (.ol xs) => if PyData.plainAll xs then (evCmp o (.list xs) y).bind fun k => some (.bool k, ρ1) else none
      | _ => none else match ρ[i]? with
      | some (.d x) => (den b ρ).bind fun (y, ρ1) => (evCmp o x y).bind fun k => some (.bool k, ρ1)
      | _ => none := rfl
theorem dE_sortK a ρ : den (.sortK a) ρ = (den a ρ).bind fun (x, ρ1) => match x with
      | .list xs => if xs.all (fun d => match d with | .tuple ys => ys.all (fun y => match y with | .str _ => true | _ => false) && lenOk ys | _ => false) then some (.list (sortKD xs), ρ1) else none
      | _ => none := rfl
theorem dE_lc e g it ifs own ρ : den (.lc e g it ifs own) ρ = (denIt it ρ).bind fun (xs, ρ1) =>
      if (own.all fun p => plainSlot ρ1[p.2]?) then
        (lcGo (lcF e g ifs (own.map (·.2))) xs (wipeE ρ1 (own.map (·.2)))).bind fun (ys, ρ5) =>
        if lenOk ys then some (.list ys, backE ρ1 ρ5 (own.map (·.2))) else none
      else none := rfl
def lcF2 (e : E) (g : Tg) (g2 : Tg) (it2 : It) (ifs2 : Ts) (own : List Nat) (own2 : List Nat) : D → Env → Option (List D × Env) := fun x ρ => (bindT (wipeE ρ own) g x).bind fun ρ2 => (denIt it2 ρ2).bind fun (xs2, ρ3) =>
          (lcGo (lcF e g2 ifs2 own2) xs2 (wipeE ρ3 own2)).bind fun (zs, ρ7) => some (zs, wipeE ρ7 own)
theorem dE_lc2 e g it g2 it2 ifs2 own own2 ρ : den (.lc2 e g it g2 it2 ifs2 own own2) ρ = (denIt it ρ).bind fun (xs, ρ1) =>
      if (own.all fun p => plainSlot ρ1[p.2]?) then
        (lcGo (lcF2 e g g2 it2 ifs2 (own.map (·.2)) own2) xs (wipeE ρ1 (own.map (·.2)))).bind fun (ys, ρ8) =>
        if lenOk ys then some (.list ys, backE ρ1 ρ8 (own.map (·.2))) else none
      else none := rfl
theorem dE_dc k v g it own ρ : den (.dc k v g it own) ρ = (denIt it ρ).bind fun (xs, ρ1) =>
      if (own.all fun p => plainSlot ρ1[p.2]?) then
        (dcGo (dcF k v g (own.map (·.2))) xs (wipeE ρ1 (own.map (·.2))) []).bind fun (kvs, ρ5) =>
        some (.dict kvs, backE ρ1 ρ5 (own.map (·.2)))
      else none := rfl
end WM
set_option Elab.async false
set_option linter.all false
set_option maxRecDepth 100000
set_option maxHeartbeats 4000000
/-! WmO1: the order of typed data is a linear one; least items; loops and draws in general. -/
namespace WM
open PySem PySem.W PyProof.Rows

section
variable {α : Type} [DecidableEq α] [DatumOrd α]
theorem ol_irr (a : α) : DatumOrd.lt a a = false := by rw [← DatumOrd.lt_eq]; exact dataLt_self _
theorem ol_tr {a b c : α} (h1 : DatumOrd.lt a b = true) (h2 : DatumOrd.lt b c = true) : DatumOrd.lt a c = true := by
  rw [← DatumOrd.lt_eq] at *
  exact lex_trans _ _ _ h1 h2
theorem ol_ntr {a b c : α} (h1 : DatumOrd.lt a b = false) (h2 : DatumOrd.lt b c = false) : DatumOrd.lt a c = false := by
  cases h : DatumOrd.lt a c with
  | false => rfl
  | true =>
    rw [← DatumOrd.lt_eq] at *
    rcases lex_negTrans _ (keyToks (Datum.toD b)) _ h with h' | h'
    · exact absurd (h1.symm.trans h') Bool.false_ne_true
    · exact absurd (h2.symm.trans h') Bool.false_ne_true
theorem ol_tot {a b : α} (h1 : DatumOrd.lt a b = false) (h2 : DatumOrd.lt b a = false) : a = b := by
  rw [← DatumOrd.lt_eq] at *
  have e : keyToks (Datum.toD a) = keyToks (Datum.toD b) := lex_total _ _ h1 h2
  have t := toks_eqv (Datum.toD a) (Datum.toD b) (DatumOrd.alike a b)
  cases h : PyData.eqv (Datum.toD a) (Datum.toD b) with
  | true => rw [Datum.eqv, decide_eq_true_eq] at h; exact h
  | false =>
    have z := t.2 h [] [.inl 0]
    rw [e, lex_pre, lex_irrefl] at z
    exact absurd z (by decide)
theorem ol_asym {a b : α} (h : DatumOrd.lt a b = true) : DatumOrd.lt b a = false := by
  cases h2 : DatumOrd.lt b a with
  | false => rfl
  | true => exact absurd ((ol_irr a).symm.trans (ol_tr h h2)) Bool.false_ne_true
theorem ol_lt_le {a b c : α} (h1 : DatumOrd.lt a b = true) (h2 : DatumOrd.lt c b = false) : DatumOrd.lt a c = true := by
  cases h : DatumOrd.lt a c with
  | true => rfl
  | false =>
    have := ol_ntr h h2
    rw [h1] at this; cases this
theorem ol_le_lt {a b c : α} (h1 : DatumOrd.lt b a = false) (h2 : DatumOrd.lt b c = true) : DatumOrd.lt a c = true := by
  cases h : DatumOrd.lt a c with
  | true => rfl
  | false =>
    have := ol_ntr h1 h
    rw [h2] at this; cases this
/-- m is in the set, and nothing there is less -/
def Least (S : α → Prop) (m : α) : Prop := S m ∧ ∀ y, S y → DatumOrd.lt y m = false
theorem Least.one {S : α → Prop} {m n : α} (h : Least S m) (k : Least S n) : m = n := ol_tot (k.2 m h.1) (h.2 n k.1)
theorem Least.iff {S T : α → Prop} {m : α} (h : Least S m) (e : ∀ x, S x ↔ T x) : Least T m := ⟨(e m).mp h.1, fun y hy => h.2 y ((e y).mpr hy)⟩
theorem minO_mem (x : α) : ∀ xs : List α, minO x xs ∈ x :: xs := by
  intro xs
  unfold minO
  induction xs generalizing x with
  | nil => exact List.mem_cons_self
  | cons y ys ih =>
    rw [List.foldl_cons]
    split
    · exact List.mem_cons_of_mem _ (ih y)
    · rcases List.mem_cons.mp (ih x) with h | h
      · rw [h]; exact List.mem_cons_self
      · exact List.mem_cons_of_mem _ (List.mem_cons_of_mem _ h)
theorem minO_le (x : α) : ∀ xs : List α, ∀ y ∈ x :: xs, DatumOrd.lt y (minO x xs) = false := by
  intro xs
  induction xs generalizing x with
  | nil => intro y hy; rw [List.mem_singleton.mp hy]; exact ol_irr x
  | cons z zs ih =>
    have e : minO x (z :: zs) = minO (if DatumOrd.lt z x then z else x) zs := rfl
    intro y hy
    rw [e]
    have ih' := ih (if DatumOrd.lt z x then z else x)
    have h0 := ih' _ List.mem_cons_self
    rcases List.mem_cons.mp hy with rfl | hy
    · refine ol_ntr ?_ h0
      cases h : DatumOrd.lt z y with
      | true => exact ol_asym h
      | false => exact ol_irr y
    · rcases List.mem_cons.mp hy with rfl | hy
      · refine ol_ntr ?_ h0
        cases h : DatumOrd.lt y x with
        | true => exact ol_irr y
        | false => exact h
      · exact ih' y (List.mem_cons_of_mem _ hy)
theorem minO_least (x : α) (xs : List α) : Least (· ∈ x :: xs) (minO x xs) := ⟨minO_mem x xs, minO_le x xs⟩
/-- the least item of a list that has one -/
def leastOf : List α → Option α
  | [] => none
  | x :: xs => some (minO x xs)
theorem leastOf_ne {xs : List α} (h : xs ≠ []) : ∃ m, leastOf xs = some m ∧ Least (· ∈ xs) m := by
  cases xs with
  | nil => exact absurd rfl h
  | cons x xs => exact ⟨_, rfl, minO_least x xs⟩
theorem ev_minL_least (hd : Datum.depth α ≤ 50) {xs : List α} {m : α} (h : Least (· ∈ xs) m) : minL (xs.map Datum.toD) = some (Datum.toD m) := by
  cases xs with
  | nil => cases h.1
  | cons x xs => rw [minL_toD hd, (minO_least x xs).one h]
theorem ev_min_least (hd : Datum.depth α ≤ 50) {xs : List α} {m : α} (h : Least (· ∈ xs) m) : evFn .min (.list (xs.map Datum.toD)) = some (Datum.toD m) := ev_minL_least hd h
theorem ev_minT_least (hd : Datum.depth α ≤ 50) {xs : List α} {m : α} (h : Least (· ∈ xs) m) : evFn .min (.tuple (xs.map Datum.toD)) = some (Datum.toD m) := ev_minL_least hd h
end

/-! ### loops -/
theorem loop_fold {β γ : Type} {f : D → Env → Option (Out × Env)} {d : β → D} {E : γ → Env} {s : γ → β → γ} (I : γ → List β → Prop) (h : ∀ c x xs, I c (x :: xs) → f (d x) (E c) = some (.nx, E (s c x)) ∧ I (s c x) xs) :
    ∀ (xs : List β) (c : γ), I c xs → loopGo f (xs.map d) (E c) = some (.nx, E (xs.foldl s c)) ∧ I (xs.foldl s c) []
  | [], c, hi => ⟨rfl, hi⟩
  | x :: xs, c, hi => by
    obtain ⟨h1, h2⟩ := h c x xs hi
    have r := loop_fold I h xs (s c x) h2
    rw [List.map_cons]
    simp only [loopGo]
    rw [h1, Option.bind_some]
    exact r
/-- a loop that appends -/
theorem loop_app {β : Type} {f : D → Env → Option (Out × Env)} {d : β → D} {E : List D → Env} {h : β → List D} {xs : List β} {acc : List D} (hl : ∀ x ∈ xs, (h x).length ≤ 1) (hf : ∀ x ∈ xs, ∀ acc, lenOk acc = true → f (d x) (E acc) = some (.nx, E (acc ++ h x))) (hb : acc.length + xs.length ≤ 100000) :
    loopGo f (xs.map d) (E acc) = some (.nx, E (acc ++ xs.flatMap h)) := by
  induction xs generalizing acc with
  | nil => simp [loopGo]
  | cons x xs ih =>
    rw [List.length_cons] at hb
    have b := hl x List.mem_cons_self
    rw [List.map_cons]
    simp only [loopGo]
    rw [hf x List.mem_cons_self acc (decide_eq_true (by omega)), Option.bind_some]
    show loopGo _ _ _ = _
    rw [ih (fun y hy => hl y (List.mem_cons_of_mem _ hy)) (fun y hy => hf y (List.mem_cons_of_mem _ hy)) (by rw [List.length_append]; omega), List.flatMap_cons, List.append_assoc]
theorem loop_app1 {β : Type} {f : D → Env → Option (Out × Env)} {d : β → D} {E : List D → Env} {h : β → D} {xs : List β} {acc : List D} (hf : ∀ x ∈ xs, ∀ acc, lenOk acc = true → f (d x) (E acc) = some (.nx, E (acc ++ [h x]))) (hb : acc.length + xs.length ≤ 100000) :
    loopGo f (xs.map d) (E acc) = some (.nx, E (acc ++ xs.map h)) := by
  have := loop_app (h := fun x => [h x]) (fun _ _ => Nat.le_refl 1) hf hb
  have e : ∀ ys : List β, ys.flatMap (fun x => [h x]) = ys.map h := fun ys => by
    induction ys with
    | nil => rfl
    | cons y ys ih => rw [List.flatMap_cons, ih]; rfl
  rw [this, e]
/-- a loop that goes on all along, by an invariant of what is left -/
theorem loop_rel {β : Type} {f : D → Env → Option (Out × Env)} {d : β → D} (I : List β → Env → Prop) (h : ∀ x xs ρ, I (x :: xs) ρ → ∃ ρ', f (d x) ρ = some (.nx, ρ') ∧ I xs ρ') : ∀ (xs : List β) (ρ : Env), I xs ρ → ∃ ρ', loopGo f (xs.map d) ρ = some (.nx, ρ') ∧ I [] ρ'
  | [], ρ, hi => ⟨ρ, rfl, hi⟩
  | x :: xs, ρ, hi => by
    obtain ⟨ρ1, h1, h2⟩ := h x xs ρ hi
    obtain ⟨ρ2, h3, h4⟩ := loop_rel I h xs ρ1 h2
    refine ⟨ρ2, ?_, h4⟩
    rw [List.map_cons]
    simp only [loopGo]
    rw [h1, Option.bind_some]
    exact h3
/-- a loop that may return: R says what of -/
theorem loop_ret {β : Type} {f : D → Env → Option (Out × Env)} {d : β → D} (I : List β → Env → Prop) (R : D → Prop) (h : ∀ x xs ρ, I (x :: xs) ρ → (∃ ρ', f (d x) ρ = some (.nx, ρ') ∧ I xs ρ') ∨ ∃ r ρ', f (d x) ρ = some (.ret r, ρ') ∧ R r) : ∀ (xs : List β) (ρ : Env), I xs ρ → (∃ ρ', loopGo f (xs.map d) ρ = some (.nx, ρ') ∧ I [] ρ') ∨ ∃ r ρ', loopGo f (xs.map d) ρ = some (.ret r, ρ') ∧ R r
  | [], ρ, hi => .inl ⟨ρ, rfl, hi⟩
  | x :: xs, ρ, hi => by
    rw [List.map_cons]
    simp only [loopGo]
    rcases h x xs ρ hi with ⟨ρ1, h1, h2⟩ | ⟨r, ρ1, h1, h2⟩
    · rw [h1, Option.bind_some]
      exact loop_ret I R h xs ρ1 h2
    · rw [h1, Option.bind_some]
      exact .inr ⟨r, ρ1, rfl, h2⟩
/-- a comprehension that keeps some of its items, and may draw -/
theorem lcGo_rel {β : Type} {f : D → Env → Option (List D × Env)} {d g : β → D} (I : List β → Env → Prop) (h : ∀ x xs ρ, I (x :: xs) ρ → ∃ ρ', (f (d x) ρ = some ([g x], ρ') ∨ f (d x) ρ = some ([], ρ')) ∧ I xs ρ') : ∀ (xs : List β) (ρ : Env), I xs ρ → ∃ (zs : List β) (ρ' : Env), lcGo f (xs.map d) ρ = some (zs.map g, ρ') ∧ zs.Sublist xs ∧ I [] ρ'
  | [], ρ, hi => ⟨[], ρ, rfl, List.Sublist.refl _, hi⟩
  | x :: xs, ρ, hi => by
    obtain ⟨ρ1, h1, h2⟩ := h x xs ρ hi
    obtain ⟨zs, ρ2, h3, h4, h5⟩ := lcGo_rel I h xs ρ1 h2
    rw [List.map_cons]
    simp only [lcGo]
    rcases h1 with h1 | h1
    · refine ⟨x :: zs, ρ2, ?_, h4.cons_cons x, h5⟩
      rw [h1, Option.bind_some]
      show (lcGo _ _ _).bind _ = _
      rw [h3]; rfl
    · refine ⟨zs, ρ2, ?_, h4.cons x, h5⟩
      rw [h1, Option.bind_some]
      show (lcGo _ _ _).bind _ = _
      rw [h3]; rfl
/-- a comprehension that draws an item at each turn -/
theorem lcGo_all {β : Type} {f : D → Env → Option (List D × Env)} {d : β → D} (I : List β → Env → Prop) (P : D → Prop) (h : ∀ x xs ρ, I (x :: xs) ρ → ∃ y ρ', f (d x) ρ = some ([y], ρ') ∧ P y ∧ I xs ρ') : ∀ (xs : List β) (ρ : Env), I xs ρ → ∃ (ys : List D) (ρ' : Env), lcGo f (xs.map d) ρ = some (ys, ρ') ∧ (∀ y ∈ ys, P y) ∧ ys.length = xs.length ∧ I [] ρ'
  | [], ρ, hi => ⟨[], ρ, rfl, fun _ h => absurd h List.not_mem_nil, rfl, hi⟩
  | x :: xs, ρ, hi => by
    obtain ⟨y, ρ1, h1, hp, h2⟩ := h x xs ρ hi
    obtain ⟨ys, ρ2, h3, h4, hl, h5⟩ := lcGo_all I P h xs ρ1 h2
    refine ⟨y :: ys, ρ2, ?_, ?_, by rw [List.length_cons, List.length_cons, hl], h5⟩
    · rw [List.map_cons]
      simp only [lcGo]
      rw [h1, Option.bind_some]
      show (lcGo _ _ _).bind _ = _
      rw [h3]; rfl
    · intro z hz
      rcases List.mem_cons.mp hz with rfl | hz
      · exact hp
      · exact h4 z hz
/-! ### draws -/
/-- a bag from which n more may be drawn -/
def BagOk (n : Nat) (xs : List D) : Prop := ∃ a b t, xs = bagD a b t ∧ 0 ≤ a ∧ 0 ≤ b ∧ b < two61 ∧ 0 ≤ t ∧ t + n ≤ 2 ^ 58
theorem BagOk.mono {n m : Nat} {xs : List D} (h : BagOk n xs) (hm : m ≤ n) : BagOk m xs := by
  obtain ⟨a, b, t, e, h1, h2, h3, h4, h5⟩ := h
  exact ⟨a, b, t, e, h1, h2, h3, h4, by omega⟩
theorem take_ok {n : Nat} {xs : List D} {many : Int} (h : BagOk (n + 1) xs) (h1 : 0 < many) (h2 : many < 1073741824) : ∃ r xs', takeF xs [.int many] = some (.int r, xs') ∧ 0 ≤ r ∧ r < many ∧ BagOk n xs' := by
  obtain ⟨a, b, t, rfl, ha, hb, hb2, ht, hn⟩ := h
  by_cases hz : 0 < a
  · refine ⟨a % many, _, take_big hz h1 h2, Int.emod_nonneg _ (by omega), Int.emod_lt_of_pos _ h1, a / many, b, t, rfl, Int.ediv_nonneg ha (by omega), hb, hb2, ht, by omega⟩
  · have : a = 0 := by omega
    subst this
    obtain ⟨r, r0, r1, e⟩ := take_low (b := b) (t := t) (many := many) h1 ⟨hb, hb2⟩ ⟨ht, by omega⟩
    exact ⟨r, _, e, r0, r1, 0, b, t + 1, rfl, Int.le_refl 0, hb, hb2, by omega, by omega⟩
theorem wellI_ok {c : Int} {i : Nat} (h : i ≤ 63) : BagOk (2 ^ 57) ((wellI c (977 * i)).map PyData.int) := by
  have hp : (0 : Int) < two61 := by decide
  have m0 := Int.emod_nonneg c (b := two61) (by decide)
  have m1 := Int.emod_lt_of_pos c hp
  unfold wellI
  split
  · rename_i h1
    have : ten18 ≤ c := h1
    exact ⟨c - ten18, c % two61, 977 * i, rfl, by omega, m0, m1, by omega, by omega⟩
  · exact ⟨0, c % two61, 977 * i, rfl, Int.le_refl 0, m0, m1, by omega, by omega⟩
end WM
set_option Elab.async false
set_option linter.all false
set_option maxRecDepth 100000
set_option maxHeartbeats 4000000
/-! WmO2: typed dicts, sorting of typed data, equality by _law_same. -/
namespace WM
open PySem PySem.W

section
variable {α : Type} [DecidableEq α] [DatumOrd α] {ν : Type}
/-! ### dicts with typed keys -/
def alook (kvs : List (α × ν)) (k : α) : Option ν := (kvs.find? fun p => decide (p.1 = k)).map (·.2)
def aput (kvs : List (α × ν)) (k : α) (v : ν) : List (α × ν) := if kvs.any (fun p => decide (p.1 = k)) then kvs.map fun p => if p.1 = k then (p.1, v) else p else kvs ++ [(k, v)]
def kvD (f : ν → D) (kvs : List (α × ν)) : List (D × D) := kvs.map fun p => (Datum.toD p.1, f p.2)
theorem toD_eq_iff (a b : α) : (Datum.toD a = Datum.toD b) ↔ a = b := ⟨toD_inj, congrArg _⟩
theorem dget_kvD (f : ν → D) (kvs : List (α × ν)) (k : α) : dget (kvD f kvs) (Datum.toD k) = (alook kvs k).map f := by
  unfold kvD
  rw [dget_toD]
  unfold alook
  rw [Option.map_map]; rfl
theorem dput_kvD (f : ν → D) (kvs : List (α × ν)) (k : α) (v : ν) : dput (kvD f kvs) (Datum.toD k) (f v) = kvD f (aput kvs k v) := by
  have e : ∀ p : α × ν, decide (Datum.toD p.1 = Datum.toD k) = decide (p.1 = k) := fun p => decide_eq_decide.mpr (toD_eq_iff _ _)
  unfold dput aput kvD
  rw [List.any_map]
  have h1 : ((fun p : D × D => decide (p.1 = Datum.toD k)) ∘ fun p : α × ν => (Datum.toD p.1, f p.2)) = fun p => decide (p.1 = k) := funext e
  rw [h1]
  split
  · rw [List.map_map, List.map_map]
    refine List.map_congr_left fun p _ => ?_
    show (if Datum.toD p.1 = Datum.toD k then (Datum.toD p.1, f v) else (Datum.toD p.1, f p.2)) = _
    by_cases h : p.1 = k
    · rw [if_pos (congrArg _ h)]; simp [h]
    · rw [if_neg (fun z => h (toD_inj z))]; simp [h]
  · rw [List.map_append]; rfl
theorem alook_cons (k j : α) (v : ν) (r : List (α × ν)) : alook ((k, v) :: r) j = if k = j then some v else alook r j := by
  unfold alook
  rw [List.find?_cons]
  by_cases h : k = j <;> simp [h]
theorem alook_none {kvs : List (α × ν)} {k : α} : alook kvs k = none ↔ ∀ v, (k, v) ∉ kvs := by
  induction kvs with
  | nil => simp [alook]
  | cons p r ih =>
    obtain ⟨j, w⟩ := p
    rw [alook_cons]
    by_cases h : j = k
    · subst h
      rw [if_pos rfl]
      exact ⟨fun z => absurd z (Option.some_ne_none w), fun z => absurd List.mem_cons_self (z w)⟩
    · rw [if_neg h, ih]
      constructor
      · intro z v hv
        rcases List.mem_cons.mp hv with e | e
        · exact h (Prod.mk.inj e).1.symm
        · exact z v e
      · exact fun z v hv => z v (List.mem_cons_of_mem _ hv)
theorem alook_mem {kvs : List (α × ν)} {k : α} {v : ν} (h : alook kvs k = some v) : (k, v) ∈ kvs := by
  induction kvs with
  | nil => simp [alook] at h
  | cons p r ih =>
    obtain ⟨j, w⟩ := p
    rw [alook_cons] at h
    by_cases e : j = k
    · rw [if_pos e] at h; cases h; subst e; exact List.mem_cons_self
    · rw [if_neg e] at h; exact List.mem_cons_of_mem _ (ih h)
theorem mem_alook {kvs : List (α × ν)} (hn : (kvs.map (·.1)).Nodup) {k : α} {v : ν} (h : (k, v) ∈ kvs) : alook kvs k = some v := by
  induction kvs with
  | nil => cases h
  | cons p r ih =>
    obtain ⟨j, w⟩ := p
    rw [List.map_cons, List.nodup_cons] at hn
    rw [alook_cons]
    rcases List.mem_cons.mp h with e | e
    · obtain ⟨rfl, rfl⟩ := Prod.mk.inj e; rw [if_pos rfl]
    · rw [if_neg (fun z => hn.1 (List.mem_map.mpr ⟨(k, v), e, z.symm⟩))]
      exact ih hn.2 e
theorem any_key {kvs : List (α × ν)} {k : α} : kvs.any (fun p => decide (p.1 = k)) = true ↔ alook kvs k ≠ none := by
  rw [List.any_eq_true]
  constructor
  · rintro ⟨p, hp, he⟩ z
    have he := of_decide_eq_true he
    exact alook_none.mp z p.2 (he ▸ hp)
  · intro h
    cases e : alook kvs k with
    | none => exact absurd e h
    | some v => exact ⟨(k, v), alook_mem e, decide_eq_true rfl⟩
theorem alook_put (kvs : List (α × ν)) (k j : α) (v : ν) : alook (aput kvs k v) j = if k = j then some v else alook kvs j := by
  unfold aput
  split
  · rename_i h
    rw [any_key] at h
    induction kvs with
    | nil => exact absurd rfl h
    | cons p r ih =>
      obtain ⟨i, w⟩ := p
      rw [List.map_cons]
      by_cases e : i = k
      · subst e
        rw [if_pos rfl, alook_cons]
        by_cases e2 : i = j
        · rw [if_pos e2, if_pos e2]
        · rw [if_neg e2, if_neg e2, alook_cons, if_neg e2]
          clear ih h
          induction r with
          | nil => rfl
          | cons q r ih2 =>
            obtain ⟨a, b⟩ := q
            rw [List.map_cons]
            by_cases e3 : a = i
            · rw [if_pos e3, alook_cons, alook_cons, if_neg (fun z => e2 (e3 ▸ z)), if_neg (fun z => e2 (e3 ▸ z)), ih2]
            · rw [if_neg e3, alook_cons, alook_cons, ih2]
      · rw [if_neg e, alook_cons]
        rw [alook_cons, if_neg e] at h
        by_cases e2 : i = j
        · subst e2
          rw [if_pos rfl, if_neg (fun z => e z.symm), alook_cons, if_pos rfl]
        · rw [if_neg e2, ih h, alook_cons, if_neg e2]
  · rename_i h
    have h : alook kvs k = none := by
      cases e : alook kvs k with
      | none => rfl
      | some v => exact absurd (any_key.mpr (by rw [e]; exact Option.some_ne_none v)) h
    induction kvs with
    | nil => rw [List.nil_append, alook_cons]
    | cons p r ih =>
      obtain ⟨i, w⟩ := p
      rw [alook_cons] at h
      by_cases e : i = k
      · rw [if_pos e] at h; cases h
      · rw [if_neg e] at h
        rw [List.cons_append, alook_cons, alook_cons]
        by_cases e2 : i = j
        · subst e2; rw [if_pos rfl, if_neg (fun z => e z.symm), if_pos rfl]
        · rw [if_neg e2, if_neg e2]
          exact ih (fun z => (any_key.mp z) h) h
theorem aput_keys (kvs : List (α × ν)) (k : α) (v : ν) : (aput kvs k v).map (·.1) = if kvs.any (fun p => decide (p.1 = k)) then kvs.map (·.1) else kvs.map (·.1) ++ [k] := by
  unfold aput
  split
  · rw [List.map_map]
    refine List.map_congr_left fun p _ => ?_
    show (if p.1 = k then (p.1, v) else p).1 = p.1
    split <;> rfl
  · rw [List.map_append]; rfl
theorem aput_nodup {kvs : List (α × ν)} (h : (kvs.map (·.1)).Nodup) (k : α) (v : ν) : ((aput kvs k v).map (·.1)).Nodup := by
  rw [aput_keys]
  split
  · exact h
  · rename_i hk
    rw [List.nodup_append]
    refine ⟨h, List.nodup_cons.mpr ⟨List.not_mem_nil, List.nodup_nil⟩, ?_⟩
    intro a ha b hb
    rw [List.mem_singleton] at hb
    subst hb
    rintro rfl
    obtain ⟨p, hp, he⟩ := List.mem_map.mp ha
    exact hk (List.any_eq_true.mpr ⟨p, hp, decide_eq_true he⟩)
theorem aput_len (kvs : List (α × ν)) (k : α) (v : ν) : (aput kvs k v).length ≤ kvs.length + 1 := by
  unfold aput
  split
  · rw [List.length_map]; omega
  · rw [List.length_append]; exact Nat.le_refl _
/-! ### sorting -/
def sortO (xs : List α) : List α := xs.mergeSort fun a b => !DatumOrd.lt b a
theorem sortD_toD (xs : List α) : sortD (xs.map Datum.toD) = (sortO xs).map Datum.toD := by
  unfold sortD sortO
  refine (List.map_mergeSort ?_).symm
  intro a _ b _
  show (!DatumOrd.lt b a) = !dataLt (Datum.toD b) (Datum.toD a)
  rw [DatumOrd.lt_eq]
theorem sortO_perm (xs : List α) : (sortO xs).Perm xs := List.mergeSort_perm _ _
theorem sortO_sorted (xs : List α) : (sortO xs).Pairwise fun a b => DatumOrd.lt b a = false := by
  have := List.pairwise_mergeSort (le := fun a b : α => !DatumOrd.lt b a) (fun a b c h1 h2 => by
    simp only [Bool.not_eq_true'] at *
    exact ol_ntr h2 h1) (fun a b => by
    cases h : DatumOrd.lt b a with
    | false => rfl
    | true => rw [ol_asym h]; rfl) xs
  exact this.imp fun h => by simpa using h
theorem sortO_id {xs : List α} (h : xs.Pairwise fun a b => DatumOrd.lt a b = true) : sortO xs = xs := List.mergeSort_of_pairwise (h.imp fun h => by rw [ol_asym h]; rfl)
theorem sorted_one {xs ys : List α} (h1 : xs.Pairwise fun a b => DatumOrd.lt b a = false) (h2 : ys.Pairwise fun a b => DatumOrd.lt b a = false) (h : xs.Perm ys) : xs = ys :=
  h.eq_of_pairwise (fun a b _ _ x y => ol_tot y x) h1 h2
end
/-- a datum of lists and tuples, not too deep or long -/
def sane : Nat → D → Bool
  | 0, _ => false
  | n + 1, .list xs => decide (xs.length ≤ 1000000) && xs.all (sane n)
  | n + 1, .tuple xs => decide (xs.length ≤ 1000000) && xs.all (sane n)
  | _ + 1, .dict _ => false
  | _ + 1, _ => true
end WM
set_option Elab.async false
set_option linter.all false
set_option maxRecDepth 100000
set_option maxHeartbeats 4000000
/-! WmPr: the defs that the laws share, as terms of IL (printed by common.py). -/
namespace WM.Pr
open PySem WM
def N_is_whole : List Str := ["thing"]
def il_is_whole : Ss :=
  .cons (.ret (.and (.isi (.var 0) [.int]) (.nt (.isi (.var 0) [.bool])))) .nil
def F_is_whole : FP := runP il_is_whole 1 1
def N_is_within : List Str := ["thing", "low", "high"]
def il_is_within : Ss :=
  .cons (.ret (.and (.call "is_whole" F_is_whole (.cons (.var 0) .nil)) (.chn .le .le (.var 1) (.var 0) (.var 2)))) .nil
def F_is_within : FP := runP il_is_within 3 3
def N_rises : List Str := ["things", "one", "other"]
def il_rises : Ss :=
  .cons (.ret (.fn .all (.lc (.cmp .lt (.var 1) (.var 2)) (.tp [1, 2]) (.zip (.var 0) (.cut (.var 0) (.yes (.int 1)) .no)) .nil [("one", 1), ("other", 2)]))) .nil
def F_rises : FP := runP il_rises 3 1
def N_is_ground : List Str := ["thing", "one"]
def il_is_ground : Ss :=
  .cons (.ret (.and (.isi (.var 0) [.tuple]) (.and (.cmp .eq (.fn .len (.var 0)) (.int 2)) (.fn .all (.lc (.call "is_within" F_is_within (.cons (.var 1) (.cons (.int 1) (.cons (.glo "MOST_SIDE" (.int 5)) .nil)))) (.nm 1) (.seq (.var 0)) .nil [("one", 1)]))))) .nil
def F_is_ground : FP := runP il_is_ground 2 1
def N_is_point : List Str := ["ground", "thing"]
def il_is_point : Ss :=
  .cons (.ite (.or (.not (.val (.isi (.var 1) [.tuple]))) (.val (.cmp .ne (.fn .len (.var 1)) (.int 2)))) (.cons (.ret (.bl false)) .nil) (.nil))
  (.cons (.ret (.and (.call "is_within" F_is_within (.cons (.idx (.var 1) (.int 0)) (.cons (.int 0) (.cons (.bin .sub (.idx (.var 0) (.int 0)) (.int 1)) .nil)))) (.call "is_within" F_is_within (.cons (.idx (.var 1) (.int 1)) (.cons (.int 0) (.cons (.bin .sub (.idx (.var 0) (.int 1)) (.int 1)) .nil)))))) .nil)
def F_is_point : FP := runP il_is_point 2 2
def N_far : List Str := ["one", "other"]
def il_far : Ss :=
  .cons (.ret (.bin .add (.fn .abs (.bin .sub (.idx (.var 0) (.int 0)) (.idx (.var 1) (.int 0)))) (.fn .abs (.bin .sub (.idx (.var 0) (.int 1)) (.idx (.var 1) (.int 1)))))) .nil
def F_far : FP := runP il_far 2 2
def N_is_road : List Str := ["ground", "thing", "one"]
def il_is_road : Ss :=
  .cons (.ite (.or (.not (.val (.isi (.var 1) [.tuple]))) (.or (.val (.cmp .ne (.fn .len (.var 1)) (.int 2))) (.not (.val (.fn .all (.lc (.call "is_point" F_is_point (.cons (.var 0) (.cons (.var 2) .nil))) (.nm 2) (.seq (.var 1)) .nil [("one", 2)])))))) (.cons (.ret (.bl false)) .nil) (.nil))
  (.cons (.ret (.and (.cmp .lt (.idx (.var 1) (.int 0)) (.idx (.var 1) (.int 1))) (.cmp .eq (.call "far" F_far (.cons (.idx (.var 1) (.int 0)) (.cons (.idx (.var 1) (.int 1)) .nil))) (.int 1)))) .nil)
def F_is_road : FP := runP il_is_road 3 2
def N_are_roads : List Str := ["ground", "thing", "one"]
def il_are_roads : Ss :=
  .cons (.ite (.or (.not (.val (.isi (.var 1) [.tuple]))) (.or (.val (.cmp .gt (.fn .len (.var 1)) (.glo "MOST_ROADS" (.int 40)))) (.not (.val (.fn .all (.lc (.call "is_road" F_is_road (.cons (.var 0) (.cons (.var 2) .nil))) (.nm 2) (.seq (.var 1)) .nil [("one", 2)])))))) (.cons (.ret (.bl false)) .nil) (.nil))
  (.cons (.ret (.call "rises" F_rises (.cons (.var 1) .nil))) .nil)
def F_are_roads : FP := runP il_are_roads 3 2
def N_is_row : List Str := ["ground", "thing", "one"]
def il_is_row : Ss :=
  .cons (.ite (.or (.not (.val (.isi (.var 1) [.tuple]))) (.not (.val (.chn .le .le (.int 1) (.fn .len (.var 1)) (.glo "MOST_ROW" (.int 10)))))) (.cons (.ret (.bl false)) .nil) (.nil))
  (.cons (.ret (.fn .all (.lc (.call "is_point" F_is_point (.cons (.var 0) (.cons (.var 2) .nil))) (.nm 2) (.seq (.var 1)) .nil [("one", 2)]))) .nil)
def F_is_row : FP := runP il_is_row 3 2
def N_points : List Str := ["ground", "x", "y"]
def il_points : Ss :=
  .cons (.ret (.lc2 (.tup (.cons (.var 1) (.cons (.var 2) .nil))) (.nm 1) (.rng (.idx (.var 0) (.int 0))) (.nm 2) (.rng (.idx (.var 0) (.int 1))) .nil [("x", 1), ("y", 2)] [2])) .nil
def F_points : FP := runP il_points 3 1
def N_road_of : List Str := ["one", "other"]
def il_road_of : Ss :=
  .cons (.ret (.tup (.cons (.fn2 .min (.var 0) (.var 1)) (.cons (.fn2 .max (.var 0) (.var 1)) .nil)))) .nil
def F_road_of : FP := runP il_road_of 2 2
def N_look_at_ground : List Str := ["ground"]
def il_look_at_ground : Ss :=
  .cons (.ite (.not (.val (.call "is_ground" F_is_ground (.cons (.var 0) .nil)))) (.cons (.never) .nil) (.nil)) .nil
def F_look_at_ground : FP := runP il_look_at_ground 1 1
def N_look_at_roads : List Str := ["ground", "roads"]
def il_look_at_roads : Ss :=
  .cons (.exp (.call "look_at_ground" F_look_at_ground (.cons (.var 0) .nil)))
  (.cons (.ite (.not (.val (.call "are_roads" F_are_roads (.cons (.var 0) (.cons (.var 1) .nil))))) (.cons (.never) .nil) (.nil)) .nil)
def F_look_at_roads : FP := runP il_look_at_roads 2 2
def N_look_at_row : List Str := ["ground", "row"]
def il_look_at_row : Ss :=
  .cons (.ite (.not (.val (.call "is_row" F_is_row (.cons (.var 0) (.cons (.var 1) .nil))))) (.cons (.never) .nil) (.nil)) .nil
def F_look_at_row : FP := runP il_look_at_row 2 2
def N_steps : List Str := ["ground", "roads", "point", "found", "other"]
def b_steps_1 : Ss :=
  .cons (.ite (.val (.cmp .eq (.var 4) (.var 2))) (.cons (.app 3 (.tup (.cons (.var 4) (.cons (.int 0) .nil)))) .nil) (.cons (.ite (.val (.cmp .eq (.call "far" F_far (.cons (.var 2) (.cons (.var 4) .nil))) (.int 1))) (.cons (.app 3 (.tup (.cons (.var 4) (.cons (.fn .int (.cmp .nin (.call "road_of" F_road_of (.cons (.var 2) (.cons (.var 4) .nil))) (.var 1))) .nil)))) .nil) (.nil)) .nil)) .nil
def il_steps : Ss :=
  .cons (.asgO 3 (.lst .nil))
  (.cons (.loop (.nm 4) (.seq (.call "points" F_points (.cons (.var 0) .nil))) b_steps_1 [4])
  (.cons (.ret (.var 3)) .nil))
def F_steps : FP := runP il_steps 5 3
def N_best_way : List Str := ["ground", "roads", "row", "found", "heard", "later", "point", "off", "slips", "way", "other", "more", "fresh"]
def b_best_way_1 : Ss :=
  .cons (.asg 12 (.tup (.cons (.bin .add (.var 7) (.var 11)) (.cons (.bin .add (.var 8) (.call "far" F_far (.cons (.var 10) (.cons (.var 4) .nil)))) (.cons (.bin .add (.var 9) (.tup (.cons (.var 10) .nil))) .nil)))))
  (.cons (.ite (.or (.val (.oIn true (.var 10) 5)) (.val (.cmp .lt (.var 12) (.oIdx 5 (.var 10))))) (.cons (.put 5 (.var 10) (.var 12)) .nil) (.nil)) .nil)
def b_best_way_2 : Ss :=
  .cons (.asgT [7, 8, 9] (.idx (.var 3) (.var 6)))
  (.cons (.loop (.tp [10, 11]) (.seq (.call "steps" F_steps (.cons (.var 0) (.cons (.var 1) (.cons (.var 6) .nil))))) b_best_way_1 [10, 11, 12]) .nil)
def b_best_way_3 : Ss :=
  .cons (.asgD 5)
  (.cons (.loop (.nm 6) (.seq (.var 3)) b_best_way_2 [6, 7, 8, 9, 10, 11, 12])
  (.cons (.asg 3 (.var 5)) .nil))
def il_best_way : Ss :=
  .cons (.exp (.call "look_at_roads" F_look_at_roads (.cons (.var 0) (.cons (.var 1) .nil))))
  (.cons (.exp (.call "look_at_row" F_look_at_row (.cons (.var 0) (.cons (.var 2) .nil))))
  (.cons (.asgO 3 (.dc (.var 6) (.tup (.cons (.int 0) (.cons (.call "far" F_far (.cons (.var 6) (.cons (.idx (.var 2) (.int 0)) .nil))) (.cons (.tup (.cons (.var 6) .nil)) .nil)))) (.nm 6) (.seq (.call "points" F_points (.cons (.var 0) .nil))) [("point", 6)]))
  (.cons (.loop (.nm 4) (.seq (.cut (.var 2) (.yes (.int 1)) .no)) b_best_way_3 [4, 5, 6, 7, 8, 9, 10, 11, 12])
  (.cons (.ret (.fn .minVals (.var 3))) .nil))))
def F_best_way : FP := runP il_best_way 13 3
def N_is_spot : List Str := ["ground", "thing", "one"]
def il_is_spot : Ss :=
  .cons (.ite (.or (.not (.val (.isi (.var 1) [.tuple]))) (.or (.val (.cmp .ne (.fn .len (.var 1)) (.int 2))) (.not (.val (.fn .all (.lc (.call "is_whole" F_is_whole (.cons (.var 2) .nil)) (.nm 2) (.seq (.var 1)) .nil [("one", 2)])))))) (.cons (.ret (.bl false)) .nil) (.nil))
  (.cons (.ret (.cmp .inn (.var 1) (.call "points" F_points (.cons (.var 0) .nil)))) .nil)
def F_is_spot : FP := runP il_is_spot 3 2
def N_is_way : List Str := ["ground", "row", "thing", "one", "other"]
def il_is_way : Ss :=
  .cons (.ite (.or (.not (.val (.isi (.var 2) [.tuple]))) (.or (.val (.cmp .ne (.fn .len (.var 2)) (.fn .len (.var 1)))) (.not (.val (.fn .all (.lc (.call "is_spot" F_is_spot (.cons (.var 0) (.cons (.var 3) .nil))) (.nm 3) (.seq (.var 2)) .nil [("one", 3)])))))) (.cons (.ret (.bl false)) .nil) (.nil))
  (.cons (.ret (.fn .all (.lc (.cmp .le (.call "far" F_far (.cons (.var 3) (.cons (.var 4) .nil))) (.int 1)) (.tp [3, 4]) (.zip (.var 2) (.cut (.var 2) (.yes (.int 1)) .no)) .nil [("one", 3), ("other", 4)]))) .nil)
def F_is_way : FP := runP il_is_way 5 3
def N_way_cost : List Str := ["ground", "roads", "row", "thing", "pairs", "off", "one", "other", "pair"]
def il_way_cost : Ss :=
  .cons (.exp (.call "look_at_roads" F_look_at_roads (.cons (.var 0) (.cons (.var 1) .nil))))
  (.cons (.exp (.call "look_at_row" F_look_at_row (.cons (.var 0) (.cons (.var 2) .nil))))
  (.cons (.ite (.not (.val (.call "is_way" F_is_way (.cons (.var 0) (.cons (.var 2) (.cons (.var 3) .nil)))))) (.cons (.ret (.non)) .nil) (.nil))
  (.cons (.asgO 4 (.lc (.tup (.cons (.var 6) (.cons (.var 7) .nil))) (.tp [6, 7]) (.zip (.var 3) (.cut (.var 3) (.yes (.int 1)) .no)) (.one (.val (.cmp .ne (.var 6) (.var 7)))) [("one", 6), ("other", 7)]))
  (.cons (.asg 5 (.fn .len (.lc (.var 8) (.nm 8) (.seq (.var 4)) (.one (.val (.cmp .nin (.call "road_of" F_road_of (.cons (.idx (.var 8) (.int 0)) (.cons (.idx (.var 8) (.int 1)) .nil))) (.var 1)))) [("pair", 8)])))
  (.cons (.ret (.tup (.cons (.var 5) (.cons (.fn .sum (.lc (.call "far" F_far (.cons (.var 6) (.cons (.var 7) .nil))) (.tp [6, 7]) (.zip (.var 3) (.var 2)) .nil [("one", 6), ("other", 7)])) .nil)))) .nil)))))
def F_way_cost : FP := runP il_way_cost 9 4
def N__law_take : List Str := ["bag", "many", "p", "n", "found"]
def il__law_take : Ss :=
  .cons (.ite (.val (.cmp .gt (.oIdx 0 (.int 0)) (.int 0))) (.cons (.asg 4 (.bin .mod (.oIdx 0 (.int 0)) (.var 1)))
  (.cons (.setB 0 (.int 0) (.bin .fdiv (.oIdx 0 (.int 0)) (.var 1)))
  (.cons (.ret (.var 4)) .nil))) (.nil))
  (.cons (.setB 0 (.int 2) (.bin .add (.oIdx 0 (.int 2)) (.int 1)))
  (.cons (.asg 2 (.int 2305843009213693951))
  (.cons (.asg 3 (.bin .mod (.bin .add (.oIdx 0 (.int 1)) (.bin .mul (.int 1000003) (.oIdx 0 (.int 2)))) (.var 2)))
  (.cons (.asg 3 (.bin .mod (.bin .add (.bin .add (.bin .mul (.var 3) (.var 3)) (.bin .mul (.int 7919) (.bin .pow (.oIdx 0 (.int 2)) (.int 2)))) (.int 5)) (.var 2)))
  (.cons (.ret (.bin .mod (.bin .fdiv (.bin .mod (.bin .pow (.var 3) (.int 3)) (.var 2)) (.int 13)) (.var 1))) .nil)))))
def F__law_take : FB := runB il__law_take 5 2
def N__law_same : List Str := ["a", "b", "x", "y"]
def il__law_same (F__law_same : FP) : Ss :=
  .cons (.ite (.or (.and (.val (.isi (.var 0) [.list])) (.val (.isi (.var 1) [.list]))) (.and (.val (.isi (.var 0) [.tuple])) (.val (.isi (.var 1) [.tuple])))) (.cons (.ret (.and (.cmp .eq (.fn .len (.var 0)) (.fn .len (.var 1))) (.fn .all (.lc (.call "_law_same" F__law_same (.cons (.var 2) (.cons (.var 3) .nil))) (.tp [2, 3]) (.zip (.var 0) (.var 1)) .nil [("x", 2), ("y", 3)])))) .nil) (.nil))
  (.cons (.ite (.or (.val (.isi (.var 0) [.bool, .list, .tuple])) (.val (.isi (.var 1) [.bool, .list, .tuple]))) (.cons (.ret (.and (.isi (.var 0) [.bool]) (.and (.isi (.var 1) [.bool]) (.cmp .eq (.var 0) (.var 1))))) .nil) (.nil))
  (.cons (.ite (.or (.val (.isi (.var 0) [.int])) (.val (.isi (.var 1) [.int]))) (.cons (.ret (.and (.isi (.var 0) [.int]) (.and (.isi (.var 1) [.int]) (.cmp .eq (.var 0) (.var 1))))) .nil) (.nil))
  (.cons (.ite (.or (.val (.isi (.var 0) [.str])) (.val (.isi (.var 1) [.str]))) (.cons (.ret (.and (.isi (.var 0) [.str]) (.and (.isi (.var 1) [.str]) (.cmp .eq (.var 0) (.var 1))))) .nil) (.nil))
  (.cons (.ret (.and (.cmp .is (.var 0) (.non)) (.cmp .is (.var 1) (.non)))) .nil))))
def Fs__law_same : Nat → FP
  | 0 => fun _ => none
  | n + 1 => runP (il__law_same (Fs__law_same n)) 4 2
def F__law_same : FP := Fs__law_same 8
def N__law_all_roads : List Str := ["ground", "found", "x", "y"]
def b__law_all_roads_1 : Ss :=
  .cons (.asg 1 (.bin .add (.var 1) (.bin .mul (.lst (.cons (.tup (.cons (.tup (.cons (.var 2) (.cons (.var 3) .nil))) (.cons (.tup (.cons (.var 2) (.cons (.bin .add (.var 3) (.int 1)) .nil))) .nil))) .nil)) (.fn .int (.cmp .lt (.bin .add (.var 3) (.int 1)) (.idx (.var 0) (.int 1)))))))
  (.cons (.asg 1 (.bin .add (.var 1) (.bin .mul (.lst (.cons (.tup (.cons (.tup (.cons (.var 2) (.cons (.var 3) .nil))) (.cons (.tup (.cons (.bin .add (.var 2) (.int 1)) (.cons (.var 3) .nil))) .nil))) .nil)) (.fn .int (.cmp .lt (.bin .add (.var 2) (.int 1)) (.idx (.var 0) (.int 0))))))) .nil)
def b__law_all_roads_2 : Ss :=
  .cons (.loop (.nm 3) (.rng (.idx (.var 0) (.int 1))) b__law_all_roads_1 [3]) .nil
def il__law_all_roads : Ss :=
  .cons (.asgO 1 (.lst .nil))
  (.cons (.loop (.nm 2) (.rng (.idx (.var 0) (.int 0))) b__law_all_roads_2 [2, 3])
  (.cons (.ret (.fn .sorted (.var 1))) .nil))
def F__law_all_roads : FP := runP il__law_all_roads 4 1
def N__law_ground : List Str := ["bag", "most"]
def il__law_ground : Ss :=
  .cons (.ret (.tup (.cons (.bin .add (.int 1) (.callB "_law_take" F__law_take 0 (.cons (.var 1) .nil))) (.cons (.bin .add (.int 1) (.callB "_law_take" F__law_take 0 (.cons (.var 1) .nil))) .nil)))) .nil
def F__law_ground : FB := runB il__law_ground 2 2
def N__law_roads : List Str := ["bag", "ground", "thick", "road"]
def il__law_roads : Ss :=
  .cons (.asg 2 (.bin .add (.int 1) (.callB "_law_take" F__law_take 0 (.cons (.int 4) .nil))))
  (.cons (.ret (.fn .tuple (.lc (.var 3) (.nm 3) (.seq (.call "_law_all_roads" F__law_all_roads (.cons (.var 1) .nil))) (.one (.val (.cmp .lt (.callB "_law_take" F__law_take 0 (.cons (.int 4) .nil)) (.var 2)))) [("road", 3)]))) .nil)
def F__law_roads : FB := runB il__law_roads 4 2
def N__law_point : List Str := ["bag", "ground"]
def il__law_point : Ss :=
  .cons (.ret (.tup (.cons (.callB "_law_take" F__law_take 0 (.cons (.idx (.var 1) (.int 0)) .nil)) (.cons (.callB "_law_take" F__law_take 0 (.cons (.idx (.var 1) (.int 1)) .nil)) .nil)))) .nil
def F__law_point : FB := runB il__law_point 2 2
def N__law_row : List Str := ["bag", "ground", "most", "wild", "found", "turn", "x", "y"]
def b__law_row_1 : Ss :=
  .cons (.asgT [6, 7] (.oIdx 4 (.neg (.int 1))))
  (.cons (.asg 6 (.fn2 .max (.int 0) (.fn2 .min (.bin .sub (.idx (.var 1) (.int 0)) (.int 1)) (.bin .sub (.bin .add (.var 6) (.callB "_law_take" F__law_take 0 (.cons (.int 3) .nil))) (.int 1)))))
  (.cons (.asg 7 (.fn2 .max (.int 0) (.fn2 .min (.bin .sub (.idx (.var 1) (.int 1)) (.int 1)) (.bin .sub (.bin .add (.var 7) (.callB "_law_take" F__law_take 0 (.cons (.int 3) .nil))) (.int 1)))))
  (.cons (.app 4 (.idx (.lst (.cons (.tup (.cons (.var 6) (.cons (.var 7) .nil))) (.cons (.tup (.cons (.var 6) (.cons (.var 7) .nil))) (.cons (.callB "_law_point" F__law_point 0 (.cons (.var 1) .nil)) .nil)))) (.max3 (.var 3) (.bin .sub (.callB "_law_take" F__law_take 0 (.cons (.int 9) .nil)) (.int 6)) (.int 0)))) .nil)))
def il__law_row : Ss :=
  .cons (.asg 3 (.callB "_law_take" F__law_take 0 (.cons (.int 3) .nil)))
  (.cons (.asgO 4 (.lst (.cons (.callB "_law_point" F__law_point 0 (.cons (.var 1) .nil)) .nil)))
  (.cons (.loop (.nm 5) (.rng (.callB "_law_take" F__law_take 0 (.cons (.var 2) .nil))) b__law_row_1 [5, 6, 7])
  (.cons (.ret (.fn .tuple (.var 4))) .nil)))
def F__law_row : FB := runB il__law_row 8 3
def N__law_far : List Str := ["one", "other"]
def il__law_far : Ss :=
  .cons (.ret (.bin .add (.fn .abs (.bin .sub (.idx (.var 0) (.int 0)) (.idx (.var 1) (.int 0)))) (.fn .abs (.bin .sub (.idx (.var 0) (.int 1)) (.idx (.var 1) (.int 1)))))) .nil
def F__law_far : FP := runP il__law_far 2 2
def N__law_spots : List Str := ["ground", "found", "x", "y"]
def b__law_spots_1 : Ss :=
  .cons (.asg 1 (.bin .add (.var 1) (.lc (.tup (.cons (.var 2) (.cons (.var 3) .nil))) (.nm 3) (.rng (.idx (.var 0) (.int 1))) .nil [("y", 3)]))) .nil
def il__law_spots : Ss :=
  .cons (.asgO 1 (.lst .nil))
  (.cons (.loop (.nm 2) (.rng (.idx (.var 0) (.int 0))) b__law_spots_1 [2])
  (.cons (.ret (.var 1)) .nil))
def F__law_spots : FP := runP il__law_spots 4 1
def N__law_off : List Str := ["roads", "one", "other"]
def il__law_off : Ss :=
  .cons (.ret (.fn .int (.and (.cmp .ne (.var 1) (.var 2)) (.cmp .nin (.tup (.cons (.fn2 .min (.var 1) (.var 2)) (.cons (.fn2 .max (.var 1) (.var 2)) .nil))) (.var 0))))) .nil
def F__law_off : FP := runP il__law_off 3 3
def N__law_all_ways : List Str := ["ground", "many", "found", "turn", "longer", "way", "spot"]
def b__law_all_ways_1 : Ss :=
  .cons (.asg 4 (.bin .add (.var 4) (.lc (.bin .add (.var 5) (.tup (.cons (.var 6) .nil))) (.nm 6) (.seq (.call "_law_spots" F__law_spots (.cons (.var 0) .nil))) (.one (.val (.cmp .lt (.call "_law_far" F__law_far (.cons (.idx (.var 5) (.neg (.int 1))) (.cons (.var 6) .nil))) (.int 2)))) [("spot", 6)]))) .nil
def b__law_all_ways_2 : Ss :=
  .cons (.asgO 4 (.lst .nil))
  (.cons (.loop (.nm 5) (.seq (.var 2)) b__law_all_ways_1 [5])
  (.cons (.asg 2 (.var 4)) .nil))
def il__law_all_ways : Ss :=
  .cons (.asgO 2 (.lc (.tup (.cons (.var 6) .nil)) (.nm 6) (.seq (.call "_law_spots" F__law_spots (.cons (.var 0) .nil))) .nil [("spot", 6)]))
  (.cons (.loop (.nm 3) (.rng (.bin .sub (.var 1) (.int 1))) b__law_all_ways_2 [3, 4, 5])
  (.cons (.ret (.var 2)) .nil))
def F__law_all_ways : FP := runP il__law_all_ways 7 2
def N__law_cost : List Str := ["roads", "row", "way", "off", "one", "other"]
def il__law_cost : Ss :=
  .cons (.asg 3 (.fn .sum (.lc (.call "_law_off" F__law_off (.cons (.var 0) (.cons (.var 4) (.cons (.var 5) .nil)))) (.tp [4, 5]) (.zip (.var 2) (.cut (.var 2) (.yes (.int 1)) .no)) .nil [("one", 4), ("other", 5)])))
  (.cons (.ret (.tup (.cons (.var 3) (.cons (.fn .sum (.lc (.call "_law_far" F__law_far (.cons (.var 4) (.cons (.var 5) .nil))) (.tp [4, 5]) (.zip (.var 2) (.var 1)) .nil [("one", 4), ("other", 5)])) .nil)))) .nil)
def F__law_cost : FP := runP il__law_cost 6 3
def N__law_mirrored : List Str := ["ground", "spot"]
def il__law_mirrored : Ss :=
  .cons (.ret (.tup (.cons (.bin .sub (.bin .sub (.idx (.var 0) (.int 0)) (.int 1)) (.idx (.var 1) (.int 0))) (.cons (.idx (.var 1) (.int 1)) .nil)))) .nil
def F__law_mirrored : FP := runP il__law_mirrored 2 2
def N__law_walk : List Str := ["bag", "ground", "roads", "many", "found", "turn", "here", "some", "spot"]
def b__law_walk_1 : Ss :=
  .cons (.asg 6 (.oIdx 4 (.neg (.int 1))))
  (.cons (.asgO 7 (.lc (.var 8) (.nm 8) (.seq (.call "_law_spots" F__law_spots (.cons (.var 1) .nil))) (.one (.and (.val (.cmp .lt (.call "_law_far" F__law_far (.cons (.var 6) (.cons (.var 8) .nil))) (.int 2))) (.val (.cmp .eq (.call "_law_off" F__law_off (.cons (.var 2) (.cons (.var 6) (.cons (.var 8) .nil)))) (.int 0))))) [("spot", 8)]))
  (.cons (.app 4 (.idx (.var 7) (.callB "_law_take" F__law_take 0 (.cons (.fn .len (.var 7)) .nil)))) .nil))
def il__law_walk : Ss :=
  .cons (.asgO 4 (.lst (.cons (.callB "_law_point" F__law_point 0 (.cons (.var 1) .nil)) .nil)))
  (.cons (.loop (.nm 5) (.rng (.var 3)) b__law_walk_1 [5, 6, 7])
  (.cons (.ret (.fn .tuple (.var 4))) .nil))
def F__law_walk : FB := runB il__law_walk 9 4
def N_bounds_of : List Str := ["ground", "roads", "heard", "ahead", "found", "point", "slip", "some", "other", "more", "off", "slips"]
def b_bounds_of_1 : Ss :=
  .cons (.asgT [10, 11] (.idx (.var 3) (.index (.call "points" F_points (.cons (.var 0) .nil)) (.var 8))))
  (.cons (.app 7 (.tup (.cons (.bin .add (.var 10) (.var 9)) (.cons (.bin .add (.var 11) (.var 6)) .nil)))) .nil)
def b_bounds_of_2 : Ss :=
  .cons (.asg 6 (.call "far" F_far (.cons (.var 5) (.cons (.var 2) .nil))))
  (.cons (.ite (.val (.cmp .is (.var 3) (.non))) (.cons (.app 4 (.tup (.cons (.int 0) (.cons (.var 6) .nil)))) .nil) (.cons (.asgO 7 (.lst .nil))
  (.cons (.loop (.tp [8, 9]) (.seq (.call "steps" F_steps (.cons (.var 0) (.cons (.var 1) (.cons (.var 5) .nil))))) b_bounds_of_1 [8, 9, 10, 11])
  (.cons (.app 4 (.fn .min (.var 7))) .nil)))) .nil)
def il_bounds_of : Ss :=
  .cons (.asgO 4 (.lst .nil))
  (.cons (.loop (.nm 5) (.seq (.call "points" F_points (.cons (.var 0) .nil))) b_bounds_of_2 [5, 6, 7, 8, 9, 10, 11])
  (.cons (.ret (.var 4)) .nil))
def F_bounds_of : FP := runP il_bounds_of 12 4
def N_way_paper : List Str := ["ground", "roads", "row", "found", "ahead", "heard"]
def b_way_paper_1 : Ss :=
  .cons (.asg 4 (.call "bounds_of" F_bounds_of (.cons (.var 0) (.cons (.var 1) (.cons (.var 5) (.cons (.var 4) .nil))))))
  (.cons (.app 3 (.fn .tuple (.var 4))) .nil)
def il_way_paper : Ss :=
  .cons (.exp (.call "look_at_roads" F_look_at_roads (.cons (.var 0) (.cons (.var 1) .nil))))
  (.cons (.exp (.call "look_at_row" F_look_at_row (.cons (.var 0) (.cons (.var 2) .nil))))
  (.cons (.asgO 3 (.lst .nil))
  (.cons (.asg 4 (.non))
  (.cons (.loop (.nm 5) (.seq (.var 2)) b_way_paper_1 [5])
  (.cons (.ret (.fn .tuple (.var 3))) .nil)))))
def F_way_paper : FP := runP il_way_paper 6 3
def N_are_pairs : List Str := ["thing", "many", "pair", "one"]
def il_are_pairs : Ss :=
  .cons (.ite (.or (.not (.val (.isi (.var 0) [.tuple]))) (.val (.cmp .ne (.fn .len (.var 0)) (.var 1)))) (.cons (.ret (.bl false)) .nil) (.nil))
  (.cons (.ret (.fn .all (.lc (.and (.isi (.var 2) [.tuple]) (.and (.cmp .eq (.fn .len (.var 2)) (.int 2)) (.fn .all (.lc (.call "is_whole" F_is_whole (.cons (.var 3) .nil)) (.nm 3) (.seq (.var 2)) .nil [("one", 3)])))) (.nm 2) (.seq (.var 0)) .nil [("pair", 2)]))) .nil)
def F_are_pairs : FP := runP il_are_pairs 4 2
def N_way_shown : List Str := ["ground", "roads", "row", "thing", "many", "ahead", "heard", "pairs", "one", "pair", "bound"]
def b_way_shown_1 : Ss :=
  .cons (.ite (.val (.fn .any (.lc (.cmp .gt (.var 9) (.var 10)) (.tp [9, 10]) (.zip (.var 7) (.call "bounds_of" F_bounds_of (.cons (.var 0) (.cons (.var 1) (.cons (.var 6) (.cons (.var 5) .nil)))))) .nil [("pair", 9), ("bound", 10)]))) (.cons (.ret (.non)) .nil) (.nil))
  (.cons (.asg 5 (.var 7)) .nil)
def il_way_shown : Ss :=
  .cons (.exp (.call "look_at_roads" F_look_at_roads (.cons (.var 0) (.cons (.var 1) .nil))))
  (.cons (.exp (.call "look_at_row" F_look_at_row (.cons (.var 0) (.cons (.var 2) .nil))))
  (.cons (.asg 4 (.fn .len (.call "points" F_points (.cons (.var 0) .nil))))
  (.cons (.ite (.or (.not (.val (.isi (.var 3) [.tuple]))) (.or (.val (.cmp .ne (.fn .len (.var 3)) (.fn .len (.var 2)))) (.not (.val (.fn .all (.lc (.call "are_pairs" F_are_pairs (.cons (.var 8) (.cons (.var 4) .nil))) (.nm 8) (.seq (.var 3)) .nil [("one", 8)])))))) (.cons (.ret (.non)) .nil) (.nil))
  (.cons (.asg 5 (.non))
  (.cons (.loop (.tp [6, 7]) (.zip (.var 2) (.var 3)) b_way_shown_1 [6, 7])
  (.cons (.ret (.fn .min (.var 5))) .nil))))))
def F_way_shown : FP := runP il_way_shown 11 4
def N__law_in : List Str := ["x", "low", "high"]
def il__law_in : Ss :=
  .cons (.ret (.and (.isi (.var 0) [.int]) (.and (.nt (.isi (.var 0) [.bool])) (.chn .le .le (.var 1) (.var 0) (.var 2))))) .nil
def F__law_in : FP := runP il__law_in 3 3
def N__law_bounds : List Str := ["ground", "roads", "heard", "ahead", "found", "spot", "slip", "some", "other", "pair"]
def b__law_bounds_1 : Ss :=
  .cons (.ite (.val (.cmp .lt (.call "_law_far" F__law_far (.cons (.var 8) (.cons (.var 5) .nil))) (.int 2))) (.cons (.app 7 (.tup (.cons (.bin .add (.idx (.var 9) (.int 0)) (.call "_law_off" F__law_off (.cons (.var 1) (.cons (.var 8) (.cons (.var 5) .nil))))) (.cons (.bin .add (.idx (.var 9) (.int 1)) (.var 6)) .nil)))) .nil) (.nil)) .nil
def b__law_bounds_2 : Ss :=
  .cons (.asg 6 (.call "_law_far" F__law_far (.cons (.var 5) (.cons (.var 2) .nil))))
  (.cons (.asgO 7 (.lst (.cons (.tup (.cons (.int 0) (.cons (.var 6) .nil))) .nil)))
  (.cons (.ite (.val (.cmp .isn (.var 3) (.non))) (.cons (.asgO 7 (.lst .nil))
  (.cons (.loop (.tp [8, 9]) (.zip (.call "_law_spots" F__law_spots (.cons (.var 0) .nil)) (.var 3)) b__law_bounds_1 [8, 9]) .nil)) (.nil))
  (.cons (.app 4 (.fn .min (.var 7))) .nil)))
def il__law_bounds : Ss :=
  .cons (.asgO 4 (.lst .nil))
  (.cons (.loop (.nm 5) (.seq (.call "_law_spots" F__law_spots (.cons (.var 0) .nil))) b__law_bounds_2 [5, 6, 7, 8, 9])
  (.cons (.ret (.fn .tuple (.var 4))) .nil))
def F__law_bounds : FP := runP il__law_bounds 10 4
def N__law_shown : List Str := ["ground", "roads", "row", "x", "ahead", "heard", "pairs", "bounds", "pair", "bound"]
def b__law_shown_1 : Ss :=
  .cons (.ite (.or (.not (.val (.isi (.var 8) [.tuple]))) (.val (.cmp .ne (.fn .len (.var 8)) (.int 2)))) (.cons (.ret (.non)) .nil) (.nil))
  (.cons (.ite (.or (.not (.val (.call "_law_in" F__law_in (.cons (.idx (.var 8) (.int 0)) (.cons (.neg (.bin .pow (.int 10) (.int 12))) (.cons (.bin .pow (.int 10) (.int 12)) .nil)))))) (.or (.not (.val (.call "_law_in" F__law_in (.cons (.idx (.var 8) (.int 1)) (.cons (.neg (.bin .pow (.int 10) (.int 12))) (.cons (.bin .pow (.int 10) (.int 12)) .nil)))))) (.val (.cmp .gt (.var 8) (.var 9))))) (.cons (.ret (.non)) .nil) (.nil)) .nil)
def b__law_shown_2 : Ss :=
  .cons (.asg 7 (.call "_law_bounds" F__law_bounds (.cons (.var 0) (.cons (.var 1) (.cons (.var 5) (.cons (.var 4) .nil))))))
  (.cons (.ite (.or (.not (.val (.isi (.var 6) [.tuple]))) (.val (.cmp .ne (.fn .len (.var 6)) (.fn .len (.var 7))))) (.cons (.ret (.non)) .nil) (.nil))
  (.cons (.loop (.tp [8, 9]) (.zip (.var 6) (.var 7)) b__law_shown_1 [8, 9])
  (.cons (.asg 4 (.var 6)) .nil)))
def il__law_shown : Ss :=
  .cons (.ite (.or (.not (.val (.isi (.var 3) [.tuple]))) (.val (.cmp .ne (.fn .len (.var 3)) (.fn .len (.var 2))))) (.cons (.ret (.non)) .nil) (.nil))
  (.cons (.asg 4 (.non))
  (.cons (.loop (.tp [5, 6]) (.zip (.var 2) (.var 3)) b__law_shown_2 [5, 6, 7, 8, 9])
  (.cons (.ret (.fn .min (.var 4))) .nil)))
def F__law_shown : FP := runP il__law_shown 10 4
def N__law_bent : List Str := ["bag", "due", "at", "k", "some", "fresh", "rows", "off", "slips"]
def il__law_bent : Ss :=
  .cons (.asg 2 (.callB "_law_take" F__law_take 0 (.cons (.fn .len (.var 1)) .nil)))
  (.cons (.asg 3 (.callB "_law_take" F__law_take 0 (.cons (.fn .len (.idx (.var 1) (.var 2))) .nil)))
  (.cons (.asgT [7, 8] (.idx (.idx (.var 1) (.var 2)) (.var 3)))
  (.cons (.asgO 4 (.lst (.cons (.tup (.cons (.bin .add (.var 7) (.int 1)) (.cons (.var 8) .nil))) (.cons (.tup (.cons (.var 7) (.cons (.bin .add (.var 8) (.int 1)) .nil))) (.cons (.tup (.cons (.bin .sub (.var 7) (.int 1)) (.cons (.bin .add (.var 8) (.int 99)) .nil))) (.cons (.tup (.cons (.var 7) (.cons (.bin .sub (.var 8) (.int 1)) .nil))) (.cons (.tup (.cons (.var 7) (.cons (.bl true) .nil))) (.cons (.tup (.cons (.var 7) .nil)) (.cons (.non) .nil)))))))))
  (.cons (.asg 5 (.bin .add (.bin .add (.cut (.idx (.var 1) (.var 2)) .no (.yes (.var 3))) (.tup (.cons (.idx (.var 4) (.callB "_law_take" F__law_take 0 (.cons (.int 7) .nil))) .nil))) (.cut (.idx (.var 1) (.var 2)) (.yes (.bin .add (.var 3) (.int 1))) .no)))
  (.cons (.asgO 6 (.lst (.cons (.bin .add (.bin .add (.cut (.var 1) .no (.yes (.var 2))) (.tup (.cons (.var 5) .nil))) (.cut (.var 1) (.yes (.bin .add (.var 2) (.int 1))) .no)) (.cons (.bin .add (.cut (.var 1) .no (.yes (.var 2))) (.cut (.var 1) (.yes (.bin .add (.var 2) (.int 1))) .no)) (.cons (.bin .add (.var 1) (.cut (.var 1) (.yes (.neg (.int 1))) .no)) .nil)))))
  (.cons (.asg 6 (.bin .add (.var 6) (.lst (.cons (.bin .add (.bin .add (.cut (.var 1) .no (.yes (.var 2))) (.tup (.cons (.step (.idx (.var 1) (.var 2)) (-1)) .nil))) (.cut (.var 1) (.yes (.bin .add (.var 2) (.int 1))) .no)) (.cons (.bin .add (.bin .add (.cut (.var 1) .no (.yes (.var 2))) (.tup (.cons (.fn .list (.var 5)) .nil))) (.cut (.var 1) (.yes (.bin .add (.var 2) (.int 1))) .no)) .nil)))))
  (.cons (.ret (.idx (.var 6) (.idx (.lst (.cons (.int 0) (.cons (.int 0) (.cons (.int 0) (.cons (.int 0) (.cons (.int 1) (.cons (.int 2) (.cons (.int 3) (.cons (.int 4) .nil))))))))) (.callB "_law_take" F__law_take 0 (.cons (.int 8) .nil))))) .nil)))))))
def F__law_bent : FB := runB il__law_bent 9 2
def N_is_name : List Str := ["thing", "sign"]
def il_is_name : Ss :=
  .cons (.ret (.and (.isi (.var 0) [.str]) (.and (.chn .le .le (.int 1) (.fn .len (.var 0)) (.int 8)) (.fn .all (.lc (.cmp .inn (.var 1) (.glo "LETTERS" (.str "abcdefghijklmnopqrstuvwxyz"))) (.nm 1) (.seq (.var 0)) .nil [("sign", 1)]))))) .nil
def F_is_name : FP := runP il_is_name 2 1
def N_walkers_of : List Str := ["reports", "one"]
def il_walkers_of : Ss :=
  .cons (.ret (.fn .sorted (.dc (.idx (.var 1) (.int 1)) (.bl true) (.nm 1) (.seq (.var 0)) [("one", 1)]))) .nil
def F_walkers_of : FP := runP il_walkers_of 2 1
def N_look_at_road : List Str := ["ground", "road"]
def il_look_at_road : Ss :=
  .cons (.ite (.not (.val (.call "is_road" F_is_road (.cons (.var 0) (.cons (.var 1) .nil))))) (.cons (.never) .nil) (.nil)) .nil
def F_look_at_road : FP := runP il_look_at_road 2 2
def N_other_word : List Str := ["word"]
def il_other_word : Ss :=
  .cons (.ret (.ite (.val (.cmp .eq (.var 0) (.str "open"))) (.str "shut") (.str "open"))) .nil
def F_other_word : FP := runP il_other_word 1 1
def N_by_days : List Str := ["reports", "road", "found", "day", "walker", "one", "word", "opens", "shuts"]
def b_by_days_1 : Ss :=
  .cons (.ite (.val (.cmp .eq (.var 5) (.var 1))) (.cons (.asgT [7, 8] (.oGet 2 (.var 3) (.tup (.cons (.int 0) (.cons (.int 0) .nil)))))
  (.cons (.put 2 (.var 3) (.tup (.cons (.bin .add (.var 7) (.fn .int (.cmp .eq (.var 6) (.str "open")))) (.cons (.bin .add (.var 8) (.fn .int (.cmp .eq (.var 6) (.str "shut")))) .nil)))) .nil)) (.nil)) .nil
def il_by_days : Ss :=
  .cons (.asgD 2)
  (.cons (.loop (.tp [3, 4, 5, 6]) (.seq (.var 0)) b_by_days_1 [3, 4, 5, 6, 7, 8])
  (.cons (.ret (.lc (.bin .add (.tup (.cons (.var 3) .nil)) (.oIdx 2 (.var 3))) (.nm 3) (.seq (.fn .sorted (.var 2))) .nil [("day", 3)])) .nil))
def F_by_days : FP := runP il_by_days 9 2
def N_false_by : List Str := ["row", "word"]
def il_false_by : Ss :=
  .cons (.ret (.ite (.val (.cmp .eq (.var 1) (.str "open"))) (.idx (.var 0) (.int 2)) (.idx (.var 0) (.int 1)))) .nil
def F_false_by : FP := runP il_false_by 2 2
def N__law_word_at : List Str := ["history1", "day", "word", "change"]
def b__law_word_at_1 : Ss :=
  .cons (.ite (.val (.cmp .le (.var 3) (.var 1))) (.cons (.asg 2 (.idx (.lst (.cons (.str "shut") (.cons (.str "open") .nil))) (.cmp .eq (.var 2) (.str "shut")))) .nil) (.nil)) .nil
def il__law_word_at : Ss :=
  .cons (.asg 2 (.idx (.var 0) (.int 0)))
  (.cons (.loop (.nm 3) (.seq (.idx (.var 0) (.int 1))) b__law_word_at_1 [3])
  (.cons (.ret (.var 2)) .nil))
def F__law_word_at : FP := runP il__law_word_at 4 2
def N__law_truth : List Str := ["bag", "many", "days1", "found", "turn"]
def b__law_truth_1 : Ss :=
  .cons (.put 3 (.bin .add (.int 1) (.callB "_law_take" F__law_take 0 (.cons (.var 2) .nil))) (.bl true)) .nil
def il__law_truth : Ss :=
  .cons (.asgD 3)
  (.cons (.loop (.nm 4) (.rng (.callB "_law_take" F__law_take 0 (.cons (.bin .add (.var 1) (.int 1)) .nil))) b__law_truth_1 [4])
  (.cons (.ret (.tup (.cons (.idx (.lst (.cons (.str "open") (.cons (.str "shut") .nil))) (.callB "_law_take" F__law_take 0 (.cons (.int 2) .nil))) (.cons (.fn .tuple (.fn .sorted (.var 3))) .nil)))) .nil))
def F__law_truth : FB := runB il__law_truth 5 3
def N__law_told : List Str := ["bag", "ground", "most", "many", "roads1", "days1", "some", "truths", "names", "liars", "found", "turn", "word", "k", "road", "at", "day", "name"]
def b__law_told_1 : Ss :=
  .cons (.par [15, 16, 17] (.cons (.callB "_law_take" F__law_take 0 (.cons (.fn .len (.var 6)) .nil)) (.cons (.callB "_law_take" F__law_take 0 (.cons (.bin .add (.var 5) (.int 2)) .nil)) (.cons (.idx (.var 8) (.callB "_law_take" F__law_take 0 (.cons (.fn .len (.var 8)) .nil))) .nil))))
  (.cons (.asg 12 (.call "_law_word_at" F__law_word_at (.cons (.idx (.var 7) (.var 15)) (.cons (.var 16) .nil))))
  (.cons (.ite (.val (.cmp .eq (.callB "_law_take" F__law_take 0 (.cons (.idx (.lst (.cons (.int 9) (.cons (.int 2) .nil))) (.cmp .inn (.var 17) (.var 9))) .nil)) (.int 0))) (.cons (.asg 12 (.idx (.lst (.cons (.str "shut") (.cons (.str "open") .nil))) (.cmp .eq (.var 12) (.str "shut")))) .nil) (.nil))
  (.cons (.put 10 (.tup (.cons (.var 16) (.cons (.var 17) (.cons (.idx (.var 6) (.var 15)) (.cons (.var 12) .nil))))) (.bl true)) .nil)))
def il__law_told : Ss :=
  .cons (.asg 4 (.call "_law_all_roads" F__law_all_roads (.cons (.var 1) .nil)))
  (.cons (.ite (.val (.cmp .eq (.var 4) (.lst .nil))) (.cons (.ret (.tup .nil)) .nil) (.nil))
  (.cons (.asg 5 (.idx (.lst (.cons (.int 2) (.cons (.int 6) (.cons (.int 30) .nil)))) (.callB "_law_take" F__law_take 0 (.cons (.int 3) .nil))))
  (.cons (.asgO 6 (.lc (.idx (.var 4) (.callB "_law_take" F__law_take 0 (.cons (.fn .len (.var 4)) .nil))) (.nm 13) (.rng (.bin .add (.int 1) (.callB "_law_take" F__law_take 0 (.cons (.int 3) .nil)))) .nil [("k", 13)]))
  (.cons (.asgO 7 (.lc (.callB "_law_truth" F__law_truth 0 (.cons (.var 2) (.cons (.var 5) .nil))) (.nm 14) (.seq (.var 6)) .nil [("road", 14)]))
  (.cons (.asg 8 (.cut (.lst (.cons (.str "ada") (.cons (.str "bo") (.cons (.str "cy") (.cons (.str "dee") (.cons (.str "eve") (.cons (.str "fay") .nil))))))) .no (.yes (.bin .add (.int 1) (.callB "_law_take" F__law_take 0 (.cons (.int 6) .nil))))))
  (.cons (.asg 9 (.cut (.var 8) .no (.yes (.callB "_law_take" F__law_take 0 (.cons (.int 3) .nil)))))
  (.cons (.asgD 10)
  (.cons (.loop (.nm 11) (.rng (.callB "_law_take" F__law_take 0 (.cons (.bin .add (.var 3) (.int 1)) .nil))) b__law_told_1 [11, 15, 16, 17, 12])
  (.cons (.ret (.fn .tuple (.fn .sorted (.var 10)))) .nil)))))))))
def F__law_told : FB := runB il__law_told 18 4
def N__law_rows_right : List Str := ["bag", "ground", "at", "roads", "row", "whole", "cost", "part", "one", "two"]
def b__law_rows_right_1 : Ss :=
  .cons (.asg 7 (.call "way_paper" F_way_paper (.cons (.var 1) (.cons (.var 3) (.cons (.cut (.var 4) .no (.yes (.var 2))) .nil)))))
  (.cons (.ite (.not (.val (.call "_law_same" F__law_same (.cons (.var 7) (.cons (.cut (.var 5) .no (.yes (.var 2))) .nil))))) (.cons (.ret (.bl false)) .nil) (.nil))
  (.cons (.par [8, 9] (.cons (.cut (.call "best_way" F_best_way (.cons (.var 1) (.cons (.var 3) (.cons (.cut (.var 4) .no (.yes (.var 2))) .nil)))) .no (.yes (.int 2))) (.cons (.cut (.call "best_way" F_best_way (.cons (.var 1) (.cons (.var 3) (.cons (.cut (.var 4) (.yes (.var 2)) .no) .nil)))) .no (.yes (.int 2))) .nil)))
  (.cons (.ite (.not (.val (.call "_law_same" F__law_same (.cons (.call "way_shown" F_way_shown (.cons (.var 1) (.cons (.var 3) (.cons (.cut (.var 4) .no (.yes (.var 2))) (.cons (.cut (.var 5) .no (.yes (.var 2))) .nil))))) (.cons (.var 8) .nil))))) (.cons (.ret (.bl false)) .nil) (.nil))
  (.cons (.ite (.or (.val (.cmp .gt (.tup (.cons (.bin .add (.idx (.var 8) (.int 0)) (.idx (.var 9) (.int 0))) (.cons (.bin .add (.idx (.var 8) (.int 1)) (.idx (.var 9) (.int 1))) .nil))) (.var 6))) (.or (.val (.cmp .gt (.var 8) (.var 6))) (.val (.cmp .gt (.var 9) (.var 6))))) (.cons (.ret (.bl false)) .nil) (.nil)) .nil))))
def il__law_rows_right : Ss :=
  .cons (.par [3, 4] (.cons (.callB "_law_roads" F__law_roads 0 (.cons (.var 1) .nil)) (.cons (.callB "_law_row" F__law_row 0 (.cons (.var 1) (.cons (.int 9) .nil))) .nil)))
  (.cons (.par [5, 6] (.cons (.call "way_paper" F_way_paper (.cons (.var 1) (.cons (.var 3) (.cons (.var 4) .nil)))) (.cons (.cut (.call "best_way" F_best_way (.cons (.var 1) (.cons (.var 3) (.cons (.var 4) .nil)))) .no (.yes (.int 2))) .nil)))
  (.cons (.loop (.nm 2) (.rng2 (.int 1) (.fn .len (.var 4))) b__law_rows_right_1 [2, 7, 8, 9])
  (.cons (.ret (.call "_law_same" F__law_same (.cons (.call "way_shown" F_way_shown (.cons (.var 1) (.cons (.var 3) (.cons (.var 4) (.cons (.var 5) .nil))))) (.cons (.var 6) .nil)))) .nil)))
def F__law_rows_right : FB := runB il__law_rows_right 10 2
def N_look_at_day : List Str := ["day"]
def il_look_at_day : Ss :=
  .cons (.ite (.not (.val (.call "is_within" F_is_within (.cons (.var 0) (.cons (.int 0) (.cons (.glo "MOST_DAY" (.int 1000)) .nil)))))) (.cons (.never) .nil) (.nil)) .nil
def F_look_at_day : FP := runP il_look_at_day 1 1
def N_without : List Str := ["reports", "lot", "one"]
def il_without : Ss :=
  .cons (.ret (.fn .tuple (.lc (.var 2) (.nm 2) (.seq (.var 0)) (.one (.val (.cmp .nin (.idx (.var 2) (.int 1)) (.var 1)))) [("one", 2)]))) .nil
def F_without : FP := runP il_without 3 2
def N_turns : List Str := ["rows", "words", "day", "opens", "shuts", "at"]
def il_turns : Ss :=
  .cons (.ite (.val (.fn .any (.lc (.and (.cmp .gt (.var 3) (.int 0)) (.cmp .gt (.var 4) (.int 0))) (.tp [2, 3, 4]) (.seq (.var 0)) .nil [("day", 2), ("opens", 3), ("shuts", 4)]))) (.cons (.ret (.non)) .nil) (.nil))
  (.cons (.asgO 1 (.lc (.cmp .gt (.var 3) (.int 0)) (.tp [2, 3, 4]) (.seq (.var 0)) .nil [("day", 2), ("opens", 3), ("shuts", 4)]))
  (.cons (.ret (.fn .len (.lc (.var 5) (.nm 5) (.rng2 (.int 1) (.fn .len (.var 1))) (.one (.val (.cmp .ne (.idx (.var 1) (.var 5)) (.idx (.var 1) (.bin .sub (.var 5) (.int 1)))))) [("at", 5)]))) .nil))
def F_turns : FP := runP il_turns 6 1
def N_road_fits : List Str := ["reports", "most", "road", "many"]
def il_road_fits : Ss :=
  .cons (.asg 3 (.call "turns" F_turns (.cons (.call "by_days" F_by_days (.cons (.var 0) (.cons (.var 2) .nil))) .nil)))
  (.cons (.ret (.and (.cmp .isn (.var 3) (.non)) (.cmp .le (.var 3) (.var 1)))) .nil)
def F_road_fits : FP := runP il_road_fits 4 3
def N_fits_so : List Str := ["reports", "most", "road", "one"]
def il_fits_so : Ss :=
  .cons (.ret (.fn .all (.lc (.call "road_fits" F_road_fits (.cons (.var 0) (.cons (.var 1) (.cons (.var 2) .nil)))) (.nm 2) (.seq (.dc (.idx (.var 3) (.int 2)) (.bl true) (.nm 3) (.seq (.var 0)) [("one", 3)])) .nil [("road", 2)]))) .nil
def F_fits_so : FP := runP il_fits_so 4 2
def N_are_walkers : List Str := ["reports", "thing", "one"]
def il_are_walkers : Ss :=
  .cons (.ret (.and (.isi (.var 1) [.tuple]) (.and (.fn .all (.lc (.cmp .inn (.var 2) (.call "walkers_of" F_walkers_of (.cons (.var 0) .nil))) (.nm 2) (.seq (.var 1)) .nil [("one", 2)])) (.call "rises" F_rises (.cons (.var 1) .nil))))) .nil
def F_are_walkers : FP := runP il_are_walkers 3 2
def N_look_at_lot : List Str := ["reports", "most", "lot"]
def il_look_at_lot : Ss :=
  .cons (.ite (.or (.not (.val (.call "are_walkers" F_are_walkers (.cons (.var 0) (.cons (.var 2) .nil))))) (.not (.val (.call "fits_so" F_fits_so (.cons (.call "without" F_without (.cons (.var 0) (.cons (.var 2) .nil))) (.cons (.var 1) .nil)))))) (.cons (.never) .nil) (.nil)) .nil
def F_look_at_lot : FP := runP il_look_at_lot 3 3
def N_rows_with : List Str := ["reports", "road", "day", "word"]
def il_rows_with : Ss :=
  .cons (.ret (.call "by_days" F_by_days (.cons (.bin .add (.var 0) (.tup (.cons (.tup (.cons (.var 2) (.cons (.str "") (.cons (.var 1) (.cons (.var 3) .nil))))) .nil))) (.cons (.var 1) .nil)))) .nil
def F_rows_with : FP := runP il_rows_with 4 4
def N_may_be : List Str := ["reports", "most", "road", "day", "word", "many"]
def il_may_be : Ss :=
  .cons (.asg 5 (.call "turns" F_turns (.cons (.call "rows_with" F_rows_with (.cons (.var 0) (.cons (.var 2) (.cons (.var 3) (.cons (.var 4) .nil))))) .nil)))
  (.cons (.ret (.and (.cmp .isn (.var 5) (.non)) (.cmp .le (.var 5) (.var 1)))) .nil)
def F_may_be : FP := runP il_may_be 6 5
def N__law_led : List Str := ["way", "ground", "spot", "x", "y"]
def il__law_led : Ss :=
  .cons (.asgT [3, 4] (.var 2))
  (.cons (.ite (.val (.cmp .ne (.var 0) (.int 1))) (.cons (.asg 3 (.bin .sub (.bin .sub (.idx (.var 1) (.int 0)) (.int 1)) (.var 3))) .nil) (.nil))
  (.cons (.ret (.ite (.val (.cmp .gt (.var 0) (.int 0))) (.tup (.cons (.var 4) (.cons (.var 3) .nil))) (.tup (.cons (.var 3) (.cons (.var 4) .nil))))) .nil))
def F__law_led : FP := runP il__law_led 5 3
def N__law_road_led : List Str := ["way", "ground", "road"]
def il__law_road_led : Ss :=
  .cons (.ret (.fn .tuple (.fn .sorted (.lst (.cons (.call "_law_led" F__law_led (.cons (.var 0) (.cons (.var 1) (.cons (.idx (.var 2) (.int 0)) .nil)))) (.cons (.call "_law_led" F__law_led (.cons (.var 0) (.cons (.var 1) (.cons (.idx (.var 2) (.int 1)) .nil)))) .nil)))))) .nil
def F__law_road_led : FP := runP il__law_road_led 3 3
def N__law_ways_led : List Str := ["bag", "way", "ground", "there", "other", "row1", "roads", "row", "papers", "others", "spot", "road", "mine", "yours"]
def il__law_ways_led : Ss :=
  .cons (.par [6, 7] (.cons (.callB "_law_roads" F__law_roads 0 (.cons (.var 2) .nil)) (.cons (.callB "_law_row" F__law_row 0 (.cons (.var 2) (.cons (.int 6) .nil))) .nil)))
  (.cons (.asg 4 (.fn .tuple (.fn .sorted (.lc (.call "_law_road_led" F__law_road_led (.cons (.var 1) (.cons (.var 2) (.cons (.var 11) .nil)))) (.nm 11) (.seq (.var 6)) .nil [("road", 11)]))))
  (.cons (.asg 5 (.fn .tuple (.lc (.call "_law_led" F__law_led (.cons (.var 1) (.cons (.var 2) (.cons (.var 10) .nil)))) (.nm 10) (.seq (.var 7)) .nil [("spot", 10)])))
  (.cons (.ite (.not (.val (.call "_law_same" F__law_same (.cons (.cut (.call "best_way" F_best_way (.cons (.var 3) (.cons (.var 4) (.cons (.var 5) .nil)))) .no (.yes (.int 2))) (.cons (.cut (.call "best_way" F_best_way (.cons (.var 2) (.cons (.var 6) (.cons (.var 7) .nil)))) .no (.yes (.int 2))) .nil))))) (.cons (.ret (.bl false)) .nil) (.nil))
  (.cons (.par [8, 9] (.cons (.call "way_paper" F_way_paper (.cons (.var 2) (.cons (.var 6) (.cons (.var 7) .nil)))) (.cons (.call "way_paper" F_way_paper (.cons (.var 3) (.cons (.var 4) (.cons (.var 5) .nil)))) .nil)))
  (.cons (.ret (.cmp .eq (.lc (.int 1) (.tp [12, 13]) (.zip (.var 8) (.var 9)) (.one (.val (.cmp .ne (.fn .sorted (.var 12)) (.fn .sorted (.var 13))))) [("mine", 12), ("yours", 13)]) (.lst .nil))) .nil)))))
def F__law_ways_led : FB := runB il__law_ways_led 14 4
end WM.Pr
set_option Elab.async false
set_option linter.all false
set_option maxRecDepth 100000
set_option maxHeartbeats 4000000
/-! WmG1: points, grounds, roads, rows: what the program's defs answer. -/
namespace WM.Pr
open PySem PySem.W WM

abbrev Pt := Int × Int
abbrev pt (p : Pt) : D := .tuple [.int p.1, .int p.2]
theorem pt_toD (p : Pt) : Datum.toD p = pt p := rfl
abbrev Rd := Pt × Pt
abbrev rd (r : Rd) : D := .tuple [pt r.1, pt r.2]
theorem rd_toD (r : Rd) : Datum.toD r = rd r := rfl
theorem small0 : small 0 = true := by decide
theorem small1 : small 1 = true := by decide
theorem ip0 (a b : D) : evIdx (.tuple [a, b]) (.int 0) = some a := rfl
theorem ip1 (a b : D) : evIdx (.tuple [a, b]) (.int 1) = some b := rfl
theorem ev_abs (i : Int) : evFn .abs (.int i) = some (.int (if i < 0 then -i else i)) := rfl
theorem ev_lenT (xs : List D) : evFn .len (.tuple xs) = some (.int xs.length) := rfl
theorem ev_lenL (xs : List D) : evFn .len (.list xs) = some (.int xs.length) := rfl
def absI (i : Int) : Int := if i < 0 then -i else i
def dist (p q : Pt) : Int := absI (p.1 - q.1) + absI (p.2 - q.2)
theorem far_eq (p q : Pt) : F_far [pt p, pt q] = some (.int (dist p q)) := by
  have e : F_far [pt p, pt q] = (denSs il_far [.d (pt p), .d (pt q)]).bind fun (o, _) => some (outOf o) := rfl
  rw [e]
  simp only [il_far, denSs, dS_asg, dS_asgO, dS_asgD, dS_asgT, dS_par, dS_app, dS_put, dS_ret, dS_ite, dS_exp, dS_setB, denT, denTs, den, denEs, denO, denIt, rdVar, isOwn, isOl, isOd, storeAll, bindT, wipeE, backE, plainSlot, walked, items, truth, asInt, outOf, List.getElem?_cons_zero, List.getElem?_cons_succ, List.set_cons_zero, List.set_cons_succ, Option.bind_some, Option.map_some, List.map_cons, List.map_nil, List.all_cons, List.all_nil, Bool.and_true, Bool.true_and, if_true, Bool.false_eq_true, if_false, ip0, ip1, ev_sub, ev_abs, ev_add]
  rfl
def isInt : D → Bool | .int _ => true | _ => false
theorem whole_eq (d : D) : F_is_whole [d] = some (.bool (isInt d)) := by
  have e : F_is_whole [d] = (denSs il_is_whole [.d d]).bind fun (o, _) => some (outOf o) := rfl
  rw [e]
  cases d <;> rfl
theorem eq_int (a b : Int) : evCmp .eq (.int a) (.int b) = some (decide (a = b)) := ev_eqD (α := Int) (by decide) a b
theorem ne_int (a b : Int) : evCmp .ne (.int a) (.int b) = some (decide (a ≠ b)) := ev_neD (α := Int) (by decide) a b
theorem within_eq (i lo hi : Int) : F_is_within [.int i, .int lo, .int hi] = some (.bool (decide (lo ≤ i ∧ i ≤ hi))) := by
  have e : F_is_within [.int i, .int lo, .int hi] = (denSs il_is_within [.d (.int i), .d (.int lo), .d (.int hi)]).bind fun (o, _) => some (outOf o) := rfl
  rw [e]
  simp only [il_is_within, denSs, dS_asg, dS_asgO, dS_asgD, dS_asgT, dS_par, dS_app, dS_put, dS_ret, dS_ite, dS_exp, dS_setB, denT, denTs, den, denEs, denO, denIt, rdVar, isOwn, isOl, isOd, storeAll, bindT, wipeE, backE, plainSlot, walked, items, truth, asInt, outOf, List.getElem?_cons_zero, List.getElem?_cons_succ, List.set_cons_zero, List.set_cons_succ, Option.bind_some, Option.map_some, List.map_cons, List.map_nil, List.all_cons, List.all_nil, Bool.and_true, Bool.true_and, if_true, Bool.false_eq_true, if_false, whole_eq, isInt, cmp_le]
  by_cases h1 : lo ≤ i
  · by_cases h2 : i ≤ hi <;> simp [h1, h2, outOf]
  · simp [h1, outOf]
theorem within_no (d : D) (lo hi : D) (h : isInt d = false) : F_is_within [d, lo, hi] = some (.bool false) := by
  have e : F_is_within [d, lo, hi] = (denSs il_is_within [.d d, .d lo, .d hi]).bind fun (o, _) => some (outOf o) := rfl
  rw [e]
  simp only [il_is_within, denSs, dS_asg, dS_asgO, dS_asgD, dS_asgT, dS_par, dS_app, dS_put, dS_ret, dS_ite, dS_exp, dS_setB, denT, denTs, den, denEs, denO, denIt, rdVar, isOwn, isOl, isOd, storeAll, bindT, wipeE, backE, plainSlot, walked, items, truth, asInt, outOf, List.getElem?_cons_zero, List.getElem?_cons_succ, List.set_cons_zero, List.set_cons_succ, Option.bind_some, Option.map_some, List.map_cons, List.map_nil, List.all_cons, List.all_nil, Bool.and_true, Bool.true_and, if_true, Bool.false_eq_true, if_false, whole_eq, h]
def okGround (g : Pt) : Prop := 1 ≤ g.1 ∧ g.1 ≤ 5 ∧ 1 ≤ g.2 ∧ g.2 ≤ 5
/-- all(..) of truths -/
theorem ev_all (bs : List Bool) : evFn .all (.list (bs.map PyData.bool)) = some (.bool (bs.all id)) := by
  have h1 : PyData.plainAll (bs.map PyData.bool) = true := by
    induction bs with
    | nil => rfl
    | cons b bs ih => rw [List.map_cons, PyData.plainAll, ih]; rfl
  have h2 : (bs.map PyData.bool).all (fun d => match d with | .bool _ => true | _ => false) = true := by
    induction bs with
    | nil => rfl
    | cons b bs ih => exact ih (by rw [List.map_cons, PyData.plainAll, Bool.and_eq_true] at h1; exact h1.2)
  have h3 : (bs.map PyData.bool).all PyData.truthy = bs.all id := by
    rw [List.all_map]; rfl
  have e : evFn .all (.list (bs.map PyData.bool)) = if PyData.plainAll (bs.map PyData.bool) && (bs.map PyData.bool).all (fun d => match d with | .bool _ => true | _ => false) then some (.bool ((bs.map PyData.bool).all PyData.truthy)) else none := rfl
  rw [e, h1, h2, h3]; rfl
theorem ground_eq {g : Pt} (h : okGround g) : F_is_ground [pt g] = some (.bool true) := by
  have e : F_is_ground [pt g] = (denSs il_is_ground [.d (pt g), .un]).bind fun (o, _) => some (outOf o) := rfl
  obtain ⟨h1, h2, h3, h4⟩ := h
  rw [e]
  have w1 : F_is_within [.int g.1, .int 1, .int 5] = some (.bool true) := by rw [within_eq, decide_eq_true ⟨h1, h2⟩]
  have w2 : F_is_within [.int g.2, .int 1, .int 5] = some (.bool true) := by rw [within_eq, decide_eq_true ⟨h3, h4⟩]
  have a1 : evFn .all (.list [.bool true, .bool true]) = some (.bool true) := ev_all [true, true]
  simp only [il_is_ground, denSs, dS_asg, dS_asgO, dS_asgD, dS_asgT, dS_par, dS_app, dS_put, dS_ret, dS_ite, dS_exp, dS_setB, denT, denTs, den, denEs, denO, denIt, rdVar, isOwn, isOl, isOd, storeAll, bindT, wipeE, backE, plainSlot, walked, items, truth, asInt, outOf, List.getElem?_cons_zero, List.getElem?_cons_succ, List.set_cons_zero, List.set_cons_succ, Option.bind_some, Option.map_some, List.map_cons, List.map_nil, List.all_cons, List.all_nil, Bool.and_true, Bool.true_and, if_true, Bool.false_eq_true, if_false, List.any_cons, List.any_nil, isTy, Bool.or_false, ev_lenT, List.length_cons, List.length_nil, eq_int, lcGo, w1, w2, List.append_nil, List.singleton_append, lenOk, List.nil_append, a1]
  rfl
theorem look_ground {g : Pt} (h : okGround g) : F_look_at_ground [pt g] = some .none := by
  have e : F_look_at_ground [pt g] = (denSs il_look_at_ground [.d (pt g)]).bind fun (o, _) => some (outOf o) := rfl
  rw [e]
  simp only [il_look_at_ground, denSs, dS_asg, dS_asgO, dS_asgD, dS_asgT, dS_par, dS_app, dS_put, dS_ret, dS_ite, dS_exp, dS_setB, denT, denTs, den, denEs, denO, denIt, rdVar, isOwn, isOl, isOd, storeAll, bindT, wipeE, backE, plainSlot, walked, items, truth, asInt, outOf, List.getElem?_cons_zero, List.getElem?_cons_succ, List.set_cons_zero, List.set_cons_succ, Option.bind_some, Option.map_some, List.map_cons, List.map_nil, List.all_cons, List.all_nil, Bool.and_true, Bool.true_and, if_true, Bool.false_eq_true, if_false, ground_eq h, Bool.not_true]
def okPt (g p : Pt) : Prop := 0 ≤ p.1 ∧ p.1 < g.1 ∧ 0 ≤ p.2 ∧ p.2 < g.2
theorem point_eq {g p : Pt} (h : okPt g p) : F_is_point [pt g, pt p] = some (.bool true) := by
  have e : F_is_point [pt g, pt p] = (denSs il_is_point [.d (pt g), .d (pt p)]).bind fun (o, _) => some (outOf o) := rfl
  obtain ⟨h1, h2, h3, h4⟩ := h
  rw [e]
  have w1 : F_is_within [.int p.1, .int 0, .int (g.1 - 1)] = some (.bool true) := by rw [within_eq, decide_eq_true ⟨h1, by omega⟩]
  have w2 : F_is_within [.int p.2, .int 0, .int (g.2 - 1)] = some (.bool true) := by rw [within_eq, decide_eq_true ⟨h3, by omega⟩]
  have l2 : evCmp .ne (.int (([PyData.int p.1, PyData.int p.2] : List D).length : Int)) (.int 2) = some false := by rw [ne_int]; rfl
  simp only [il_is_point, denSs, dS_asg, dS_asgO, dS_asgD, dS_asgT, dS_par, dS_app, dS_put, dS_ret, dS_ite, dS_exp, dS_setB, denT, denTs, den, denEs, denO, denIt, rdVar, isOwn, isOl, isOd, storeAll, bindT, wipeE, backE, plainSlot, walked, items, truth, asInt, outOf, List.getElem?_cons_zero, List.getElem?_cons_succ, List.set_cons_zero, List.set_cons_succ, Option.bind_some, Option.map_some, List.map_cons, List.map_nil, List.all_cons, List.all_nil, Bool.and_true, Bool.true_and, if_true, Bool.false_eq_true, if_false, List.any_cons, List.any_nil, isTy, Bool.or_false, ev_lenT, l2, Bool.not_true, ip0, ip1, ev_sub, w1, w2]
theorem lt_ptD (p q : Pt) : evCmp .lt (pt p) (pt q) = some (DatumOrd.lt p q) := ev_ltD (α := Pt) (by decide) p q
def ptLt (p q : Pt) : Bool := if p.1 = q.1 then decide (p.2 < q.2) else decide (p.1 < q.1)
theorem ptLt_eq (p q : Pt) : (DatumOrd.lt p q : Bool) = ptLt p q := rfl
/-- a road of a ground -/
def okRd (g : Pt) (r : Rd) : Prop := okPt g r.1 ∧ okPt g r.2 ∧ ptLt r.1 r.2 = true ∧ dist r.1 r.2 = 1
theorem road_eq {g : Pt} {r : Rd} (h : okRd g r) : F_is_road [pt g, rd r] = some (.bool true) := by
  have e : F_is_road [pt g, rd r] = (denSs il_is_road [.d (pt g), .d (rd r), .un]).bind fun (o, _) => some (outOf o) := rfl
  obtain ⟨h1, h2, h3, h4⟩ := h
  rw [e]
  have l2 : evCmp .ne (.int (([pt r.1, pt r.2] : List D).length : Int)) (.int 2) = some false := by rw [ne_int]; rfl
  have a1 : evFn .all (.list [.bool true, .bool true]) = some (.bool true) := ev_all [true, true]
  have c1 : evCmp .lt (pt r.1) (pt r.2) = some true := by rw [lt_ptD, ptLt_eq, h3]
  have c2 : evCmp .eq (.int (dist r.1 r.2)) (.int 1) = some true := by rw [eq_int, h4]; rfl
  have hL : lenOk [PyData.bool true, PyData.bool true] = true := rfl
  have i0 : evIdx (.tuple [pt r.1, pt r.2]) (.int 0) = some (pt r.1) := rfl
  have i1 : evIdx (.tuple [pt r.1, pt r.2]) (.int 1) = some (pt r.2) := rfl
  simp only [il_is_road, denSs, dS_asg, dS_asgO, dS_asgD, dS_asgT, dS_par, dS_app, dS_put, dS_ret, dS_ite, dS_exp, dS_setB, denT, denTs, den, denEs, denO, denIt, rdVar, isOwn, isOl, isOd, storeAll, bindT, wipeE, backE, plainSlot, walked, items, truth, asInt, outOf, List.getElem?_cons_zero, List.getElem?_cons_succ, List.set_cons_zero, List.set_cons_succ, Option.bind_some, Option.map_some, List.map_cons, List.map_nil, List.all_cons, List.all_nil, Bool.and_true, Bool.true_and, if_true, Bool.false_eq_true, if_false, List.any_cons, List.any_nil, isTy, Bool.or_false, ev_lenT, l2, Bool.not_true, lcGo, point_eq h1, point_eq h2, List.append_nil, List.singleton_append, hL, a1, i0, i1, c1, far_eq, c2]
theorem lcGo_of {β : Type} {f : D → Env → Option (List D × Env)} {ρ : Env} {d : β → D} {h : β → D} : ∀ ys : List β, (∀ y ∈ ys, f (d y) ρ = some ([h y], ρ)) → lcGo f (ys.map d) ρ = some (ys.map h, ρ)
  | [], _ => rfl
  | y :: ys, hh => by
    rw [List.map_cons, List.map_cons]
    simp only [lcGo]
    rw [hh y List.mem_cons_self, Option.bind_some, lcGo_of ys fun z hz => hh z (List.mem_cons_of_mem _ hz)]
    rfl
theorem cut_one {β : Type} (xs : List β) : cutL xs (some 1) none = xs.drop 1 := by
  show (xs.drop (min 1 xs.length)).take (xs.length - min 1 xs.length) = _
  cases xs with
  | nil => rfl
  | cons x xs =>
    have : min 1 (x :: xs).length = 1 := by rw [List.length_cons]; omega
    rw [this]
    show List.take ((x :: xs).length - 1) xs = xs
    rw [List.length_cons, Nat.add_sub_cancel, List.take_length]
theorem pairUp_map {β γ : Type} (f : β → D) (g : γ → D) : ∀ (xs : List β) (ys : List γ), pairUp (xs.map f) (ys.map g) = (xs.zip ys).map fun p => .tuple [f p.1, g p.2]
  | [], _ => by simp [pairUp]
  | _ :: _, [] => by simp [pairUp]
  | x :: xs, y :: ys => by simp only [List.map_cons, pairUp, List.zip_cons_cons, pairUp_map f g xs ys]
theorem zip_len {β γ : Type} (xs : List β) (ys : List γ) : (xs.zip ys).length ≤ xs.length := by rw [List.length_zip]; exact Nat.min_le_left _ _
def rising {α : Type} [DecidableEq α] [DatumOrd α] (xs : List α) : Bool := ((xs.zip (xs.drop 1)).map fun p => DatumOrd.lt p.1 p.2).all id
theorem rises_eq {α : Type} [DecidableEq α] [DatumOrd α] (hd : Datum.depth α ≤ 50) (xs : List α) (hl : xs.length ≤ 1000000) : F_rises [.tuple (xs.map Datum.toD)] = some (.bool (rising xs)) := by
  have e : F_rises [.tuple (xs.map Datum.toD)] = (denSs il_rises [.d (.tuple (xs.map Datum.toD)), .un, .un]).bind fun (o, _) => some (outOf o) := rfl
  rw [e]
  have c : evCut (.tuple (xs.map Datum.toD)) (some 1) none = some (.tuple ((xs.drop 1).map Datum.toD)) := by
    show some (PyData.tuple (cutL (xs.map Datum.toD) (some 1) none)) = _
    rw [cut_one, List.map_drop]
  have L : lenOk ((xs.zip (xs.drop 1)).map fun p => PyData.bool (DatumOrd.lt p.1 p.2)) = true := by
    unfold lenOk; rw [List.length_map]; exact decide_eq_true (Nat.le_trans (zip_len _ _) hl)
  have a : evFn .all (.list ((xs.zip (xs.drop 1)).map fun p => PyData.bool (DatumOrd.lt p.1 p.2))) = some (.bool (rising xs)) := by
    have := ev_all ((xs.zip (xs.drop 1)).map fun p => DatumOrd.lt p.1 p.2)
    rw [List.map_map] at this
    exact this
  have s1 : small 1 = true := by decide
  simp only [il_rises, denSs, dS_asg, dS_asgO, dS_asgD, dS_asgT, dS_par, dS_app, dS_put, dS_ret, dS_ite, dS_exp, dS_setB, denT, denTs, den, denEs, denO, denIt, rdVar, isOwn, isOl, isOd, storeAll, bindT, wipeE, backE, plainSlot, walked, items, truth, asInt, outOf, List.getElem?_cons_zero, List.getElem?_cons_succ, List.set_cons_zero, List.set_cons_succ, Option.bind_some, Option.map_some, List.map_cons, List.map_nil, List.all_cons, List.all_nil, Bool.and_true, Bool.true_and, if_true, Bool.false_eq_true, if_false, s1, c, pairUp_map]
  rw [lcGo_of (d := fun p : α × α => .tuple [Datum.toD p.1, Datum.toD p.2]) (h := fun p => PyData.bool (DatumOrd.lt p.1 p.2)) _ (fun y _ => by
    simp only [denSs, dS_asg, dS_asgO, dS_asgD, dS_asgT, dS_par, dS_app, dS_put, dS_ret, dS_ite, dS_exp, dS_setB, denT, denTs, den, denEs, denO, denIt, rdVar, isOwn, isOl, isOd, storeAll, bindT, wipeE, backE, plainSlot, walked, items, truth, asInt, outOf, List.getElem?_cons_zero, List.getElem?_cons_succ, List.set_cons_zero, List.set_cons_succ, Option.bind_some, Option.map_some, List.map_cons, List.map_nil, List.all_cons, List.all_nil, Bool.and_true, Bool.true_and, if_true, Bool.false_eq_true, if_false, ev_ltD hd])]
  simp only [denSs, dS_asg, dS_asgO, dS_asgD, dS_asgT, dS_par, dS_app, dS_put, dS_ret, dS_ite, dS_exp, dS_setB, denT, denTs, den, denEs, denO, denIt, rdVar, isOwn, isOl, isOd, storeAll, bindT, wipeE, backE, plainSlot, walked, items, truth, asInt, outOf, List.getElem?_cons_zero, List.getElem?_cons_succ, List.set_cons_zero, List.set_cons_succ, Option.bind_some, Option.map_some, List.map_cons, List.map_nil, List.all_cons, List.all_nil, Bool.and_true, Bool.true_and, if_true, Bool.false_eq_true, if_false, L, a]
def okRoads (g : Pt) (R : List Rd) : Prop := R.length ≤ 40 ∧ (∀ r ∈ R, okRd g r) ∧ rising R = true
abbrev rds (R : List Rd) : D := .tuple (R.map rd)
theorem all_true {β : Type} (xs : List β) : evFn .all (.list (xs.map fun _ => PyData.bool true)) = some (.bool true) := by
  have := ev_all (xs.map fun _ => true)
  rw [List.map_map] at this
  have h : (xs.map fun _ => true).all id = true := by simp
  rw [h] at this
  exact this
theorem roads_eq {g : Pt} {R : List Rd} (h : okRoads g R) : F_are_roads [pt g, rds R] = some (.bool true) := by
  have e : F_are_roads [pt g, rds R] = (denSs il_are_roads [.d (pt g), .d (rds R), .un]).bind fun (o, _) => some (outOf o) := rfl
  obtain ⟨h1, h2, h3⟩ := h
  rw [e]
  have c1 : evCmp .gt (.int ((R.map rd).length : Nat)) (.int 40) = some false := by rw [cmp_gt, List.length_map]; exact congrArg some (decide_eq_false (by omega))
  have L : lenOk (R.map fun _ => PyData.bool true) = true := by unfold lenOk; rw [List.length_map]; exact decide_eq_true (by omega)
  have r1 : F_rises [.tuple (R.map rd)] = some (.bool true) := by
    have := rises_eq (α := Rd) (by decide) R (by omega)
    rw [h3] at this; exact this
  simp only [il_are_roads, denSs, dS_asg, dS_asgO, dS_asgD, dS_asgT, dS_par, dS_app, dS_put, dS_ret, dS_ite, dS_exp, dS_setB, denT, denTs, den, denEs, denO, denIt, rdVar, isOwn, isOl, isOd, storeAll, bindT, wipeE, backE, plainSlot, walked, items, truth, asInt, outOf, List.getElem?_cons_zero, List.getElem?_cons_succ, List.set_cons_zero, List.set_cons_succ, Option.bind_some, Option.map_some, List.map_cons, List.map_nil, List.all_cons, List.all_nil, Bool.and_true, Bool.true_and, if_true, Bool.false_eq_true, if_false, List.any_cons, List.any_nil, isTy, Bool.or_false, ev_lenT, c1, Bool.not_true]
  rw [lcGo_of (d := rd) (h := fun _ => PyData.bool true) _ (fun y hy => by
    simp only [denSs, dS_asg, dS_asgO, dS_asgD, dS_asgT, dS_par, dS_app, dS_put, dS_ret, dS_ite, dS_exp, dS_setB, denT, denTs, den, denEs, denO, denIt, rdVar, isOwn, isOl, isOd, storeAll, bindT, wipeE, backE, plainSlot, walked, items, truth, asInt, outOf, List.getElem?_cons_zero, List.getElem?_cons_succ, List.set_cons_zero, List.set_cons_succ, Option.bind_some, Option.map_some, List.map_cons, List.map_nil, List.all_cons, List.all_nil, Bool.and_true, Bool.true_and, if_true, Bool.false_eq_true, if_false, road_eq (h2 y hy)])]
  simp only [denSs, dS_asg, dS_asgO, dS_asgD, dS_asgT, dS_par, dS_app, dS_put, dS_ret, dS_ite, dS_exp, dS_setB, denT, denTs, den, denEs, denO, denIt, rdVar, isOwn, isOl, isOd, storeAll, bindT, wipeE, backE, plainSlot, walked, items, truth, asInt, outOf, List.getElem?_cons_zero, List.getElem?_cons_succ, List.set_cons_zero, List.set_cons_succ, Option.bind_some, Option.map_some, List.map_cons, List.map_nil, List.all_cons, List.all_nil, Bool.and_true, Bool.true_and, if_true, Bool.false_eq_true, if_false, L, all_true, Bool.not_true, r1]
abbrev pts (ps : List Pt) : D := .tuple (ps.map pt)
def okRow (g : Pt) (ps : List Pt) : Prop := 1 ≤ ps.length ∧ ps.length ≤ 10 ∧ ∀ p ∈ ps, okPt g p
theorem row_eq {g : Pt} {R : List Pt} (h : okRow g R) : F_is_row [pt g, pts R] = some (.bool true) := by
  have e : F_is_row [pt g, pts R] = (denSs il_is_row [.d (pt g), .d (pts R), .un]).bind fun (o, _) => some (outOf o) := rfl
  obtain ⟨h1, h2, h3⟩ := h
  rw [e]
  have c1 : evCmp .le (.int 1) (.int ((R.map pt).length : Nat)) = some true := by rw [cmp_le, List.length_map]; exact congrArg some (decide_eq_true (by omega))
  have c2 : evCmp .le (.int ((R.map pt).length : Nat)) (.int 10) = some true := by rw [cmp_le, List.length_map]; exact congrArg some (decide_eq_true (by omega))
  have L : lenOk (R.map fun _ => PyData.bool true) = true := by unfold lenOk; rw [List.length_map]; exact decide_eq_true (by omega)
  simp only [il_is_row, denSs, dS_asg, dS_asgO, dS_asgD, dS_asgT, dS_par, dS_app, dS_put, dS_ret, dS_ite, dS_exp, dS_setB, denT, denTs, den, denEs, denO, denIt, rdVar, isOwn, isOl, isOd, storeAll, bindT, wipeE, backE, plainSlot, walked, items, truth, asInt, outOf, List.getElem?_cons_zero, List.getElem?_cons_succ, List.set_cons_zero, List.set_cons_succ, Option.bind_some, Option.map_some, List.map_cons, List.map_nil, List.all_cons, List.all_nil, Bool.and_true, Bool.true_and, if_true, Bool.false_eq_true, if_false, List.any_cons, List.any_nil, isTy, Bool.or_false, ev_lenT, c1, c2, Bool.not_true]
  rw [lcGo_of (d := pt) (h := fun _ => PyData.bool true) _ (fun y hy => by
    simp only [denSs, dS_asg, dS_asgO, dS_asgD, dS_asgT, dS_par, dS_app, dS_put, dS_ret, dS_ite, dS_exp, dS_setB, denT, denTs, den, denEs, denO, denIt, rdVar, isOwn, isOl, isOd, storeAll, bindT, wipeE, backE, plainSlot, walked, items, truth, asInt, outOf, List.getElem?_cons_zero, List.getElem?_cons_succ, List.set_cons_zero, List.set_cons_succ, Option.bind_some, Option.map_some, List.map_cons, List.map_nil, List.all_cons, List.all_nil, Bool.and_true, Bool.true_and, if_true, Bool.false_eq_true, if_false, point_eq (h3 y hy)])]
  simp only [denSs, dS_asg, dS_asgO, dS_asgD, dS_asgT, dS_par, dS_app, dS_put, dS_ret, dS_ite, dS_exp, dS_setB, denT, denTs, den, denEs, denO, denIt, rdVar, isOwn, isOl, isOd, storeAll, bindT, wipeE, backE, plainSlot, walked, items, truth, asInt, outOf, List.getElem?_cons_zero, List.getElem?_cons_succ, List.set_cons_zero, List.set_cons_succ, Option.bind_some, Option.map_some, List.map_cons, List.map_nil, List.all_cons, List.all_nil, Bool.and_true, Bool.true_and, if_true, Bool.false_eq_true, if_false, L, all_true]
theorem look_roads {g : Pt} {R : List Rd} (hg : okGround g) (h : okRoads g R) : F_look_at_roads [pt g, rds R] = some .none := by
  have e : F_look_at_roads [pt g, rds R] = (denSs il_look_at_roads [.d (pt g), .d (rds R)]).bind fun (o, _) => some (outOf o) := rfl
  rw [e]
  simp only [il_look_at_roads, denSs, dS_asg, dS_asgO, dS_asgD, dS_asgT, dS_par, dS_app, dS_put, dS_ret, dS_ite, dS_exp, dS_setB, denT, denTs, den, denEs, denO, denIt, rdVar, isOwn, isOl, isOd, storeAll, bindT, wipeE, backE, plainSlot, walked, items, truth, asInt, outOf, List.getElem?_cons_zero, List.getElem?_cons_succ, List.set_cons_zero, List.set_cons_succ, Option.bind_some, Option.map_some, List.map_cons, List.map_nil, List.all_cons, List.all_nil, Bool.and_true, Bool.true_and, if_true, Bool.false_eq_true, if_false, look_ground hg, roads_eq h, Bool.not_true]
theorem look_row {g : Pt} {R : List Pt} (h : okRow g R) : F_look_at_row [pt g, pts R] = some .none := by
  have e : F_look_at_row [pt g, pts R] = (denSs il_look_at_row [.d (pt g), .d (pts R)]).bind fun (o, _) => some (outOf o) := rfl
  rw [e]
  simp only [il_look_at_row, denSs, dS_asg, dS_asgO, dS_asgD, dS_asgT, dS_par, dS_app, dS_put, dS_ret, dS_ite, dS_exp, dS_setB, denT, denTs, den, denEs, denO, denIt, rdVar, isOwn, isOl, isOd, storeAll, bindT, wipeE, backE, plainSlot, walked, items, truth, asInt, outOf, List.getElem?_cons_zero, List.getElem?_cons_succ, List.set_cons_zero, List.set_cons_succ, Option.bind_some, Option.map_some, List.map_cons, List.map_nil, List.all_cons, List.all_nil, Bool.and_true, Bool.true_and, if_true, Bool.false_eq_true, if_false, row_eq h, Bool.not_true]
/-- the road between two points -/
def roadOf (p q : Pt) : Rd := (minO p [q], maxO p [q])
theorem road_of_eq (p q : Pt) : F_road_of [pt p, pt q] = some (rd (roadOf p q)) := by
  have e : F_road_of [pt p, pt q] = (denSs il_road_of [.d (pt p), .d (pt q)]).bind fun (o, _) => some (outOf o) := rfl
  rw [e]
  have m1 : evFn2 .min (pt p) (pt q) = some (pt (minO p [q])) := minL_toD (α := Pt) (by decide) p [q]
  have m2 : evFn2 .max (pt p) (pt q) = some (pt (maxO p [q])) := maxL_toD (α := Pt) (by decide) p [q]
  simp only [il_road_of, denSs, dS_asg, dS_asgO, dS_asgD, dS_asgT, dS_par, dS_app, dS_put, dS_ret, dS_ite, dS_exp, dS_setB, denT, denTs, den, denEs, denO, denIt, rdVar, isOwn, isOl, isOd, storeAll, bindT, wipeE, backE, plainSlot, walked, items, truth, asInt, outOf, List.getElem?_cons_zero, List.getElem?_cons_succ, List.set_cons_zero, List.set_cons_succ, Option.bind_some, Option.map_some, List.map_cons, List.map_nil, List.all_cons, List.all_nil, Bool.and_true, Bool.true_and, if_true, Bool.false_eq_true, if_false, m1, m2]
  rfl
theorem lcGo_flat {β : Type} {f : D → Env → Option (List D × Env)} {ρ : Env} {d : β → D} {h : β → List D} : ∀ ys : List β, (∀ y ∈ ys, f (d y) ρ = some (h y, ρ)) → lcGo f (ys.map d) ρ = some (ys.flatMap h, ρ)
  | [], _ => rfl
  | y :: ys, hh => by
    rw [List.map_cons]
    simp only [lcGo]
    rw [hh y List.mem_cons_self, Option.bind_some, lcGo_flat ys fun z hz => hh z (List.mem_cons_of_mem _ hz)]
    rfl
theorem rangeD_map : ∀ (n : Nat) (lo : Int), rangeD lo n = (List.range n).map fun (i : Nat) => PyData.int (lo + i)
  | 0, _ => rfl
  | n + 1, lo => by
    rw [rangeD, rangeD_map n (lo + 1), List.range_succ_eq_map, List.map_cons, List.map_map]
    congr 1
    · simp
    · refine List.map_congr_left fun i _ => ?_
      show PyData.int (lo + 1 + i) = PyData.int (lo + (i + 1 : Nat))
      congr 1; omega
theorem range0 (n : Nat) : rangeD 0 n = (List.range n).map fun (i : Nat) => PyData.int i := by
  rw [rangeD_map]
  refine List.map_congr_left fun i _ => ?_
  rw [Int.zero_add]
/-- all points of a ground, rising -/
def spots (g : Pt) : List Pt := (List.range g.1.toNat).flatMap fun (x : Nat) => (List.range g.2.toNat).map fun (y : Nat) => ((x : Int), (y : Int))
theorem spots_len (g : Pt) : (spots g).length = g.1.toNat * g.2.toNat := by
  unfold spots
  rw [List.length_flatMap]
  simp only [List.length_map, List.length_range, List.map_const', List.sum_replicate_nat]
theorem points_eq {g : Pt} (hg : okGround g) : F_points [pt g] = some (.list ((spots g).map pt)) := by
  have e : F_points [pt g] = (denSs il_points [.d (pt g), .un, .un]).bind fun (o, _) => some (outOf o) := rfl
  obtain ⟨h1, h2, h3, h4⟩ := hg
  rw [e]
  have s1 : small g.1 = true := decide_eq_true (by omega)
  have s2 : small g.2 = true := decide_eq_true (by omega)
  have L : lenOk ((List.range g.1.toNat).flatMap fun (x : Nat) => (List.range g.2.toNat).map fun (y : Nat) => pt ((x : Int), (y : Int))) = true := by
    unfold lenOk
    rw [List.length_flatMap]
    simp only [List.length_map, List.length_range, List.map_const', List.sum_replicate_nat]
    have : g.1.toNat * g.2.toNat ≤ 5 * 5 := Nat.mul_le_mul (by omega) (by omega)
    exact decide_eq_true (by omega)
  simp only [il_points, denSs, dS_asg, dS_asgO, dS_asgD, dS_asgT, dS_par, dS_app, dS_put, dS_ret, dS_ite, dS_exp, dS_setB, denT, denTs, den, denEs, denO, denIt, rdVar, isOwn, isOl, isOd, storeAll, bindT, wipeE, backE, plainSlot, walked, items, truth, asInt, outOf, List.getElem?_cons_zero, List.getElem?_cons_succ, List.set_cons_zero, List.set_cons_succ, Option.bind_some, Option.map_some, List.map_cons, List.map_nil, List.all_cons, List.all_nil, Bool.and_true, Bool.true_and, if_true, Bool.false_eq_true, if_false, ip0, ip1, s1, range0]
  rw [lcGo_flat (d := fun (i : Nat) => PyData.int i) (h := fun (x : Nat) => (List.range g.2.toNat).map fun (y : Nat) => pt ((x : Int), (y : Int))) _ (fun x _ => by
    simp only [denSs, dS_asg, dS_asgO, dS_asgD, dS_asgT, dS_par, dS_app, dS_put, dS_ret, dS_ite, dS_exp, dS_setB, denT, denTs, den, denEs, denO, denIt, rdVar, isOwn, isOl, isOd, storeAll, bindT, wipeE, backE, plainSlot, walked, items, truth, asInt, outOf, List.getElem?_cons_zero, List.getElem?_cons_succ, List.set_cons_zero, List.set_cons_succ, Option.bind_some, Option.map_some, List.map_cons, List.map_nil, List.all_cons, List.all_nil, Bool.and_true, Bool.true_and, if_true, Bool.false_eq_true, if_false, ip0, ip1, s2, range0]
    rw [lcGo_of (d := fun (i : Nat) => PyData.int i) (h := fun (y : Nat) => pt ((x : Int), (y : Int))) _ (fun y _ => by simp only [denSs, dS_asg, dS_asgO, dS_asgD, dS_asgT, dS_par, dS_app, dS_put, dS_ret, dS_ite, dS_exp, dS_setB, denT, denTs, den, denEs, denO, denIt, rdVar, isOwn, isOl, isOd, storeAll, bindT, wipeE, backE, plainSlot, walked, items, truth, asInt, outOf, List.getElem?_cons_zero, List.getElem?_cons_succ, List.set_cons_zero, List.set_cons_succ, Option.bind_some, Option.map_some, List.map_cons, List.map_nil, List.all_cons, List.all_nil, Bool.and_true, Bool.true_and, if_true, Bool.false_eq_true, if_false])]
    simp only [denSs, dS_asg, dS_asgO, dS_asgD, dS_asgT, dS_par, dS_app, dS_put, dS_ret, dS_ite, dS_exp, dS_setB, denT, denTs, den, denEs, denO, denIt, rdVar, isOwn, isOl, isOd, storeAll, bindT, wipeE, backE, plainSlot, walked, items, truth, asInt, outOf, List.getElem?_cons_zero, List.getElem?_cons_succ, List.set_cons_zero, List.set_cons_succ, Option.bind_some, Option.map_some, List.map_cons, List.map_nil, List.all_cons, List.all_nil, Bool.and_true, Bool.true_and, if_true, Bool.false_eq_true, if_false])]
  simp only [denSs, dS_asg, dS_asgO, dS_asgD, dS_asgT, dS_par, dS_app, dS_put, dS_ret, dS_ite, dS_exp, dS_setB, denT, denTs, den, denEs, denO, denIt, rdVar, isOwn, isOl, isOd, storeAll, bindT, wipeE, backE, plainSlot, walked, items, truth, asInt, outOf, List.getElem?_cons_zero, List.getElem?_cons_succ, List.set_cons_zero, List.set_cons_succ, Option.bind_some, Option.map_some, List.map_cons, List.map_nil, List.all_cons, List.all_nil, Bool.and_true, Bool.true_and, if_true, Bool.false_eq_true, if_false, L]
  congr 2
  unfold spots
  rw [List.map_flatMap]
  refine congrArg (fun f => List.flatMap f (List.range g.1.toNat)) (funext fun x => ?_)
  rw [List.map_map]; rfl
theorem spots_mem {g p : Pt} : p ∈ spots g ↔ okPt g p := by
  unfold spots okPt
  simp only [List.mem_flatMap, List.mem_range, List.mem_map]
  constructor
  · rintro ⟨x, hx, y, hy, rfl⟩
    refine ⟨?_, ?_, ?_, ?_⟩ <;> simp only <;> omega
  · rintro ⟨h1, h2, h3, h4⟩
    exact ⟨p.1.toNat, by omega, p.2.toNat, by omega, by ext <;> simp <;> omega⟩
/-- the points to which a step may lead, with whether it is off the roads -/
abbrev st2 (s : Pt × Int) : D := .tuple [pt s.1, .int s.2]
theorem eq_pt (p q : Pt) : evCmp .eq (pt p) (pt q) = some (decide (p = q)) := ev_eqD (α := Pt) (by decide) p q
theorem ne_pt (p q : Pt) : evCmp .ne (pt p) (pt q) = some (decide (p ≠ q)) := ev_neD (α := Pt) (by decide) p q
theorem nin_rds (r : Rd) (R : List Rd) : evCmp .nin (rd r) (rds R) = some (!decide (r ∈ R)) := by
  have e : evCmp .nin (rd r) (rds R) = (evIn (rd r) (rds R)).map (!·) := rfl
  have h : evIn (rd r) (rds R) = some (decide (r ∈ R)) := by
    have := ev_inT (α := Rd) (by decide) r R
    exact this.trans (congrArg some (decide_eq_decide.mpr Iff.rfl))
  rw [e, h]; rfl
theorem ev_intB (b : Bool) : evFn .int (.bool b) = some (.int (if b then 1 else 0)) := rfl
theorem flatMap_len {β γ : Type} (f : β → List γ) (h : ∀ b, (f b).length ≤ 1) : ∀ xs : List β, (xs.flatMap f).length ≤ xs.length
  | [] => Nat.le_refl _
  | x :: xs => by rw [List.flatMap_cons, List.length_append, List.length_cons]; have := h x; have := flatMap_len f h xs; omega
def stepF (R : List Rd) (p o : Pt) : List (Pt × Int) := if o = p then [(o, 0)] else if dist p o = 1 then [(o, if roadOf p o ∈ R then 0 else 1)] else []
theorem steps_turn (g : Pt) (R : List Rd) (p o : Pt) (acc : List D) (L : lenOk acc = true) : lpF (.nm 4) b_steps_1 [4] (pt o) [.d (pt g), .d (rds R), .d (pt p), .ol acc, .un] = some (.nx, [.d (pt g), .d (rds R), .d (pt p), .ol (acc ++ (stepF R p o).map st2), .un]) := by
  rw [lpF_eq]
  simp only [b_steps_1, denSs, dS_asg, dS_asgO, dS_asgD, dS_asgT, dS_par, dS_app, dS_put, dS_ret, dS_ite, dS_exp, dS_setB, denT, denTs, den, denEs, denO, denIt, rdVar, isOwn, isOl, isOd, storeAll, bindT, wipeE, backE, plainSlot, walked, items, truth, asInt, outOf, List.getElem?_cons_zero, List.getElem?_cons_succ, List.set_cons_zero, List.set_cons_succ, Option.bind_some, Option.map_some, List.map_cons, List.map_nil, List.all_cons, List.all_nil, Bool.and_true, Bool.true_and, if_true, Bool.false_eq_true, if_false, eq_pt]
  unfold stepF
  by_cases h1 : o = p
  · simp only [h1, decide_true, denSs, dS_asg, dS_asgO, dS_asgD, dS_asgT, dS_par, dS_app, dS_put, dS_ret, dS_ite, dS_exp, dS_setB, denT, denTs, den, denEs, denO, denIt, rdVar, isOwn, isOl, isOd, storeAll, bindT, wipeE, backE, plainSlot, walked, items, truth, asInt, outOf, List.getElem?_cons_zero, List.getElem?_cons_succ, List.set_cons_zero, List.set_cons_succ, Option.bind_some, Option.map_some, List.map_cons, List.map_nil, List.all_cons, List.all_nil, Bool.and_true, Bool.true_and, if_true, Bool.false_eq_true, if_false, L]
  · simp only [h1, decide_false, denSs, dS_asg, dS_asgO, dS_asgD, dS_asgT, dS_par, dS_app, dS_put, dS_ret, dS_ite, dS_exp, dS_setB, denT, denTs, den, denEs, denO, denIt, rdVar, isOwn, isOl, isOd, storeAll, bindT, wipeE, backE, plainSlot, walked, items, truth, asInt, outOf, List.getElem?_cons_zero, List.getElem?_cons_succ, List.set_cons_zero, List.set_cons_succ, Option.bind_some, Option.map_some, List.map_cons, List.map_nil, List.all_cons, List.all_nil, Bool.and_true, Bool.true_and, if_true, Bool.false_eq_true, if_false, far_eq, eq_int]
    by_cases h2 : dist p o = 1
    · simp only [h2, decide_true, denSs, dS_asg, dS_asgO, dS_asgD, dS_asgT, dS_par, dS_app, dS_put, dS_ret, dS_ite, dS_exp, dS_setB, denT, denTs, den, denEs, denO, denIt, rdVar, isOwn, isOl, isOd, storeAll, bindT, wipeE, backE, plainSlot, walked, items, truth, asInt, outOf, List.getElem?_cons_zero, List.getElem?_cons_succ, List.set_cons_zero, List.set_cons_succ, Option.bind_some, Option.map_some, List.map_cons, List.map_nil, List.all_cons, List.all_nil, Bool.and_true, Bool.true_and, if_true, Bool.false_eq_true, if_false, road_of_eq, nin_rds, ev_intB, L]
      by_cases h3 : roadOf p o ∈ R <;> simp [h3]
    · simp only [h2, decide_false, denSs, dS_asg, dS_asgO, dS_asgD, dS_asgT, dS_par, dS_app, dS_put, dS_ret, dS_ite, dS_exp, dS_setB, denT, denTs, den, denEs, denO, denIt, rdVar, isOwn, isOl, isOd, storeAll, bindT, wipeE, backE, plainSlot, walked, items, truth, asInt, outOf, List.getElem?_cons_zero, List.getElem?_cons_succ, List.set_cons_zero, List.set_cons_succ, Option.bind_some, Option.map_some, List.map_cons, List.map_nil, List.all_cons, List.all_nil, Bool.and_true, Bool.true_and, if_true, Bool.false_eq_true, if_false, List.append_nil]
theorem stepF_len (R : List Rd) (p o : Pt) : (stepF R p o).length ≤ 1 := by
  unfold stepF
  split
  · exact Nat.le_refl _
  · split
    · exact Nat.le_refl _
    · exact Nat.zero_le _
theorem steps_loop (g : Pt) (R : List Rd) (p : Pt) : ∀ (ps : List Pt) (acc : List D), acc.length + ps.length ≤ 1000 → loopGo (lpF (.nm 4) b_steps_1 [4]) (ps.map pt) [.d (pt g), .d (rds R), .d (pt p), .ol acc, .un] =
      some (.nx, [.d (pt g), .d (rds R), .d (pt p), .ol (acc ++ (ps.flatMap (stepF R p)).map st2), .un])
  | [], acc, _ => by simp [loopGo]
  | o :: ps, acc, hl => by
    rw [List.length_cons] at hl
    have L : lenOk acc = true := decide_eq_true (by omega)
    have := stepF_len R p o
    rw [List.map_cons]
    simp only [loopGo]
    rw [steps_turn g R p o acc L, Option.bind_some]
    show loopGo _ _ _ = _
    rw [steps_loop g R p ps _ (by rw [List.length_append, List.length_map]; omega), List.flatMap_cons, List.map_append, List.append_assoc]
def stepsM (g : Pt) (R : List Rd) (p : Pt) : List (Pt × Int) := (spots g).flatMap (stepF R p)
theorem steps_eq {g : Pt} (hg : okGround g) (R : List Rd) (p : Pt) : F_steps [pt g, rds R, pt p] = some (.list ((stepsM g R p).map st2)) := by
  have e : F_steps [pt g, rds R, pt p] = (denSs il_steps [.d (pt g), .d (rds R), .d (pt p), .un, .un]).bind fun (o, _) => some (outOf o) := rfl
  have hlen : (spots g).length ≤ 25 := by
    rw [spots_len]
    obtain ⟨h1, h2, h3, h4⟩ := hg
    have a1 : g.1.toNat ≤ 5 := by omega
    have a2 : g.2.toNat ≤ 5 := by omega
    exact Nat.mul_le_mul a1 a2
  rw [e]
  simp only [il_steps, denSs, dS_asg, dS_asgO, dS_asgD, dS_asgT, dS_par, dS_app, dS_put, dS_ret, dS_ite, dS_exp, dS_setB, denT, denTs, den, denEs, denO, denIt, rdVar, isOwn, isOl, isOd, storeAll, bindT, wipeE, backE, plainSlot, walked, items, truth, asInt, outOf, List.getElem?_cons_zero, List.getElem?_cons_succ, List.set_cons_zero, List.set_cons_succ, Option.bind_some, Option.map_some, List.map_cons, List.map_nil, List.all_cons, List.all_nil, Bool.and_true, Bool.true_and, if_true, Bool.false_eq_true, if_false, dS_loop, points_eq hg]
  rw [steps_loop g R p (spots g) [] (by simp; omega)]
  simp only [denSs, dS_asg, dS_asgO, dS_asgD, dS_asgT, dS_par, dS_app, dS_put, dS_ret, dS_ite, dS_exp, dS_setB, denT, denTs, den, denEs, denO, denIt, rdVar, isOwn, isOl, isOd, storeAll, bindT, wipeE, backE, plainSlot, walked, items, truth, asInt, outOf, List.getElem?_cons_zero, List.getElem?_cons_succ, List.set_cons_zero, List.set_cons_succ, Option.bind_some, Option.map_some, List.map_cons, List.map_nil, List.all_cons, List.all_nil, Bool.and_true, Bool.true_and, if_true, Bool.false_eq_true, if_false, List.nil_append]
  rfl
end WM.Pr
set_option Elab.async false
set_option linter.all false
set_option maxRecDepth 100000
set_option maxHeartbeats 4000000
/-! WmG2: the paper of ways: what the program's defs answer. -/
namespace WM.Pr
open PySem PySem.W WM

theorem pt_inj {p q : Pt} (h : pt p = pt q) : p = q := toD_inj (α := Pt) h
theorem keydL_pts : ∀ ps : List Pt, keydL (ps.map pt) = true
  | [] => rfl
  | p :: ps => by rw [List.map_cons, keydL, keydL_pts ps]; rfl
theorem idxOf_pts (o : Pt) : ∀ ps : List Pt, (ps.map pt).idxOf (pt o) = ps.idxOf o
  | [] => rfl
  | p :: ps => by
    rw [List.map_cons, List.idxOf_cons, List.idxOf_cons, idxOf_pts o ps]
    by_cases h : p = o
    · subst h; simp
    · have b1 : (pt p == pt o) = false := beq_eq_false_iff_ne.mpr fun z => h (pt_inj z)
      have b2 : (p == o) = false := beq_eq_false_iff_ne.mpr h
      rw [b1, b2]
theorem index_ok {g o : Pt} (ho : o ∈ spots g) : (keydL ((spots g).map pt) && keyd (pt o) && decide ((pt o).depth ≤ 8) && decide (pt o ∈ (spots g).map pt)) = true := by
  rw [keydL_pts, decide_eq_true (List.mem_map.mpr ⟨o, ho, rfl⟩), decide_eq_true (show (pt o).depth ≤ 8 by exact Nat.le_trans (Datum.depth_le (α := Pt) o) (by decide))]
  rfl
/-- the datum AD, read at the place of a point, is the pair A o -/
def Ahead (g : Pt) (AD : D) (A : Pt → Int × Int) : Prop := ∀ o ∈ spots g, evIdx AD (.int ((spots g).idxOf o : Nat)) = some (pt (A o))
theorem bnd_turn1 {g o : Pt} (hg : okGround g) (ho : o ∈ spots g) {AD : D} {A : Pt → Int × Int} (hA : Ahead g AD A) (R hd p : D) (f sm : List D) (m slip : Int) (L : lenOk sm = true) :
    lpF (.tp [8, 9]) b_bounds_of_1 [8, 9, 10, 11] (st2 (o, m)) [.d (pt g), .d R, .d hd, .d AD, .ol f, .d p, .d (.int slip), .ol sm, .un, .un, .un, .un] =
      some (.nx, [.d (pt g), .d R, .d hd, .d AD, .ol f, .d p, .d (.int slip), .ol (sm ++ [pt ((A o).1 + m, (A o).2 + slip)]), .un, .un, .un, .un]) := by
  rw [lpF_eq]
  simp only [b_bounds_of_1, denSs, dS_asg, dS_asgO, dS_asgD, dS_asgT, dS_par, dS_app, dS_put, dS_ret, dS_ite, dS_exp, dS_setB, denT, denTs, den, denEs, denO, denIt, rdVar, isOwn, isOl, isOd, storeAll, bindT, wipeE, backE, plainSlot, walked, items, truth, asInt, outOf, List.getElem?_cons_zero, List.getElem?_cons_succ, List.set_cons_zero, List.set_cons_succ, Option.bind_some, Option.map_some, List.map_cons, List.map_nil, List.all_cons, List.all_nil, Bool.and_true, Bool.true_and, if_true, Bool.false_eq_true, if_false, points_eq hg, index_ok ho, idxOf_pts, hA o ho, ev_add, L]
theorem bnd_loop1 {g : Pt} (hg : okGround g) {AD : D} {A : Pt → Int × Int} (hA : Ahead g AD A) (R hd p : D) (f : List D) (slip : Int) : ∀ (ss : List (Pt × Int)) (sm : List D), (∀ s ∈ ss, s.1 ∈ spots g) → sm.length + ss.length ≤ 1000 →
    loopGo (lpF (.tp [8, 9]) b_bounds_of_1 [8, 9, 10, 11]) (ss.map st2) [.d (pt g), .d R, .d hd, .d AD, .ol f, .d p, .d (.int slip), .ol sm, .un, .un, .un, .un] =
      some (.nx, [.d (pt g), .d R, .d hd, .d AD, .ol f, .d p, .d (.int slip), .ol (sm ++ ss.map fun s => pt ((A s.1).1 + s.2, (A s.1).2 + slip)), .un, .un, .un, .un])
  | [], sm, _, _ => by simp [loopGo]
  | s :: ss, sm, hs, hl => by
    rw [List.length_cons] at hl
    have L : lenOk sm = true := decide_eq_true (by omega)
    rw [List.map_cons]
    simp only [loopGo]
    have t := bnd_turn1 hg (hs s List.mem_cons_self) hA R hd p f sm s.2 slip L
    rw [show st2 s = st2 (s.1, s.2) from rfl, t, Option.bind_some]
    show loopGo _ _ _ = _
    rw [bnd_loop1 hg hA R hd p f slip ss _ (fun x hx => hs x (List.mem_cons_of_mem _ hx)) (by rw [List.length_append]; simp; omega), List.map_cons, List.append_assoc]
    rfl
theorem steps_mem {g p : Pt} {R : List Rd} {s : Pt × Int} (h : s ∈ stepsM g R p) : s.1 ∈ spots g := by
  unfold stepsM at h
  obtain ⟨o, ho, h⟩ := List.mem_flatMap.mp h
  unfold stepF at h
  split at h
  · simp at h; rw [h]; exact ho
  · split at h
    · simp at h; rw [h]; exact ho
    · simp at h
theorem steps_len (g p : Pt) (R : List Rd) : (stepsM g R p).length ≤ (spots g).length := flatMap_len _ (stepF_len R p) _
theorem spots_25 {g : Pt} (hg : okGround g) : (spots g).length ≤ 25 := by
  rw [spots_len]
  obtain ⟨h1, h2, h3, h4⟩ := hg
  have a1 : g.1.toNat ≤ 5 := by omega
  have a2 : g.2.toNat ≤ 5 := by omega
  exact Nat.mul_le_mul a1 a2
/-- the first of the least, of a list that is not empty -/
def minL1 : List (Int × Int) → Int × Int
  | [] => (0, 0)
  | x :: xs => minO x xs
theorem min_pts {cs : List (Int × Int)} (h : cs ≠ []) : evFn .min (.list (cs.map pt)) = some (pt (minL1 cs)) := by
  cases cs with
  | nil => exact absurd rfl h
  | cons x xs => exact minL_toD (α := Int × Int) (by decide) x xs
/-- what may stand at p at most, by what stands ahead -/
def bndM (g : Pt) (R : List Rd) (hd : Pt) (A : Pt → Int × Int) (p : Pt) : Int × Int := minL1 ((stepsM g R p).map fun s => ((A s.1).1 + s.2, (A s.1).2 + dist p hd))
theorem steps_ne {g p : Pt} (R : List Rd) (hp : p ∈ spots g) : stepsM g R p ≠ [] := by
  intro h
  have : (p, 0) ∈ stepsM g R p := List.mem_flatMap.mpr ⟨p, hp, by unfold stepF; rw [if_pos rfl]; exact List.mem_singleton.mpr rfl⟩
  rw [h] at this; cases this
theorem bnd_turn0 {g : Pt} (R hd p : Pt) (RD : D) (f : List D) (L : lenOk f = true) :
    lpF (.nm 5) b_bounds_of_2 [5, 6, 7, 8, 9, 10, 11] (pt p) [.d (pt g), .d RD, .d (pt hd), .d .none, .ol f, .un, .un, .un, .un, .un, .un, .un] =
      some (.nx, [.d (pt g), .d RD, .d (pt hd), .d .none, .ol (f ++ [pt (0, dist p hd)]), .un, .un, .un, .un, .un, .un, .un]) := by
  have c : evCmp .is .none .none = some true := rfl
  rw [lpF_eq]
  simp only [b_bounds_of_2, denSs, dS_asg, dS_asgO, dS_asgD, dS_asgT, dS_par, dS_app, dS_put, dS_ret, dS_ite, dS_exp, dS_setB, denT, denTs, den, denEs, denO, denIt, rdVar, isOwn, isOl, isOd, storeAll, bindT, wipeE, backE, plainSlot, walked, items, truth, asInt, outOf, List.getElem?_cons_zero, List.getElem?_cons_succ, List.set_cons_zero, List.set_cons_succ, Option.bind_some, Option.map_some, List.map_cons, List.map_nil, List.all_cons, List.all_nil, Bool.and_true, Bool.true_and, if_true, Bool.false_eq_true, if_false, far_eq, c, L]
theorem bnd_turn2 {g hd p : Pt} (hg : okGround g) (hp : p ∈ spots g) {AD : D} {A : Pt → Int × Int} (hN : isNone AD = false) (hA : Ahead g AD A) (R : List Rd) (f : List D) (L : lenOk f = true) :
    lpF (.nm 5) b_bounds_of_2 [5, 6, 7, 8, 9, 10, 11] (pt p) [.d (pt g), .d (rds R), .d (pt hd), .d AD, .ol f, .un, .un, .un, .un, .un, .un, .un] =
      some (.nx, [.d (pt g), .d (rds R), .d (pt hd), .d AD, .ol (f ++ [pt (bndM g R hd A p)]), .un, .un, .un, .un, .un, .un, .un]) := by
  have c : evCmp .is AD .none = some false := by
    show (if isNone .none = true then some (isNone AD) else none) = _
    rw [hN]; rfl
  have l1 := bnd_loop1 hg hA (rds R) (pt hd) (pt p) f (dist p hd) (stepsM g R p) [] (fun s hs => steps_mem hs) (by have := steps_len g p R; have := spots_25 hg; simp; omega)
  have hm : ((stepsM g R p).map fun s => pt ((A s.1).1 + s.2, (A s.1).2 + dist p hd)) = ((stepsM g R p).map fun s => ((A s.1).1 + s.2, (A s.1).2 + dist p hd)).map pt := by rw [List.map_map]; rfl
  rw [List.nil_append, hm] at l1
  have m := min_pts (cs := (stepsM g R p).map fun s => ((A s.1).1 + s.2, (A s.1).2 + dist p hd)) (by simpa using steps_ne R hp)
  rw [lpF_eq]
  simp only [b_bounds_of_2, denSs, dS_asg, dS_asgO, dS_asgD, dS_asgT, dS_par, dS_app, dS_put, dS_ret, dS_ite, dS_exp, dS_setB, denT, denTs, den, denEs, denO, denIt, rdVar, isOwn, isOl, isOd, storeAll, bindT, wipeE, backE, plainSlot, walked, items, truth, asInt, outOf, List.getElem?_cons_zero, List.getElem?_cons_succ, List.set_cons_zero, List.set_cons_succ, Option.bind_some, Option.map_some, List.map_cons, List.map_nil, List.all_cons, List.all_nil, Bool.and_true, Bool.true_and, if_true, Bool.false_eq_true, if_false, far_eq, c, dS_loop, steps_eq hg, l1, m, L]
  rfl
theorem bnd_loop0 {g : Pt} (hd : Pt) (RD : D) : ∀ (ps : List Pt) (f : List D), f.length + ps.length ≤ 1000 →
    loopGo (lpF (.nm 5) b_bounds_of_2 [5, 6, 7, 8, 9, 10, 11]) (ps.map pt) [.d (pt g), .d RD, .d (pt hd), .d .none, .ol f, .un, .un, .un, .un, .un, .un, .un] =
      some (.nx, [.d (pt g), .d RD, .d (pt hd), .d .none, .ol (f ++ ps.map fun p => pt (0, dist p hd)), .un, .un, .un, .un, .un, .un, .un])
  | [], f, _ => by simp [loopGo]
  | p :: ps, f, hl => by
    rw [List.length_cons] at hl
    rw [List.map_cons]
    simp only [loopGo]
    rw [bnd_turn0 (0, 0) hd p RD f (decide_eq_true (by omega)), Option.bind_some]
    show loopGo _ _ _ = _
    rw [bnd_loop0 hd RD ps _ (by rw [List.length_append]; simp; omega), List.map_cons, List.append_assoc]
    rfl
theorem bnd_loop2 {g hd : Pt} (hg : okGround g) {AD : D} {A : Pt → Int × Int} (hN : isNone AD = false) (hA : Ahead g AD A) (R : List Rd) : ∀ (ps : List Pt) (f : List D), (∀ p ∈ ps, p ∈ spots g) → f.length + ps.length ≤ 1000 →
    loopGo (lpF (.nm 5) b_bounds_of_2 [5, 6, 7, 8, 9, 10, 11]) (ps.map pt) [.d (pt g), .d (rds R), .d (pt hd), .d AD, .ol f, .un, .un, .un, .un, .un, .un, .un] =
      some (.nx, [.d (pt g), .d (rds R), .d (pt hd), .d AD, .ol (f ++ ps.map fun p => pt (bndM g R hd A p)), .un, .un, .un, .un, .un, .un, .un])
  | [], f, _, _ => by simp [loopGo]
  | p :: ps, f, hs, hl => by
    rw [List.length_cons] at hl
    rw [List.map_cons]
    simp only [loopGo]
    rw [bnd_turn2 hg (hs p List.mem_cons_self) hN hA R f (decide_eq_true (by omega)), Option.bind_some]
    show loopGo _ _ _ = _
    rw [bnd_loop2 hg hN hA R ps _ (fun x hx => hs x (List.mem_cons_of_mem _ hx)) (by rw [List.length_append]; simp; omega), List.map_cons, List.append_assoc]
    rfl
theorem bounds0_eq {g : Pt} (hg : okGround g) (RD : D) (hd : Pt) : F_bounds_of [pt g, RD, pt hd, .none] = some (.list ((spots g).map fun p => pt (0, dist p hd))) := by
  have e : F_bounds_of [pt g, RD, pt hd, .none] = (denSs il_bounds_of [.d (pt g), .d RD, .d (pt hd), .d .none, .un, .un, .un, .un, .un, .un, .un, .un]).bind fun (o, _) => some (outOf o) := rfl
  have l := bnd_loop0 (g := g) hd RD (spots g) [] (by have := spots_25 hg; simp; omega)
  rw [e]
  simp only [il_bounds_of, denSs, dS_asg, dS_asgO, dS_asgD, dS_asgT, dS_par, dS_app, dS_put, dS_ret, dS_ite, dS_exp, dS_setB, denT, denTs, den, denEs, denO, denIt, rdVar, isOwn, isOl, isOd, storeAll, bindT, wipeE, backE, plainSlot, walked, items, truth, asInt, outOf, List.getElem?_cons_zero, List.getElem?_cons_succ, List.set_cons_zero, List.set_cons_succ, Option.bind_some, Option.map_some, List.map_cons, List.map_nil, List.all_cons, List.all_nil, Bool.and_true, Bool.true_and, if_true, Bool.false_eq_true, if_false, dS_loop, points_eq hg, l, List.nil_append]
theorem bounds1_eq {g : Pt} (hg : okGround g) (R : List Rd) (hd : Pt) {AD : D} {A : Pt → Int × Int} (hN : isNone AD = false) (hA : Ahead g AD A) : F_bounds_of [pt g, rds R, pt hd, AD] = some (.list ((spots g).map fun p => pt (bndM g R hd A p))) := by
  have e : F_bounds_of [pt g, rds R, pt hd, AD] = (denSs il_bounds_of [.d (pt g), .d (rds R), .d (pt hd), .d AD, .un, .un, .un, .un, .un, .un, .un, .un]).bind fun (o, _) => some (outOf o) := rfl
  have l := bnd_loop2 (hd := hd) hg hN hA R (spots g) [] (fun _ h => h) (by have := spots_25 hg; simp; omega)
  rw [e]
  simp only [il_bounds_of, denSs, dS_asg, dS_asgO, dS_asgD, dS_asgT, dS_par, dS_app, dS_put, dS_ret, dS_ite, dS_exp, dS_setB, denT, denTs, den, denEs, denO, denIt, rdVar, isOwn, isOl, isOd, storeAll, bindT, wipeE, backE, plainSlot, walked, items, truth, asInt, outOf, List.getElem?_cons_zero, List.getElem?_cons_succ, List.set_cons_zero, List.set_cons_succ, Option.bind_some, Option.map_some, List.map_cons, List.map_nil, List.all_cons, List.all_nil, Bool.and_true, Bool.true_and, if_true, Bool.false_eq_true, if_false, dS_loop, points_eq hg, l, List.nil_append]
theorem idx_L (xs : List D) (i : Int) : evIdx (.list xs) (.int i) = if small i = true then ixAt xs i else none := rfl
theorem idx_T (xs : List D) (i : Int) : evIdx (.tuple xs) (.int i) = if small i = true then ixAt xs i else none := rfl
/-- a list or tuple that holds a pair for each point -/
theorem ahead_of {g : Pt} (hg : okGround g) (A : Pt → Int × Int) : Ahead g (.list ((spots g).map fun p => pt (A p))) A ∧ Ahead g (.tuple ((spots g).map fun p => pt (A p))) A := by
  have key : ∀ o ∈ spots g, ixAt ((spots g).map fun p => pt (A p)) ((spots g).idxOf o : Nat) = some (pt (A o)) := fun o ho => by
    have hlt : (spots g).idxOf o < (spots g).length := List.idxOf_lt_length_of_mem ho
    unfold ixAt
    rw [if_pos (Int.natCast_nonneg _), Int.toNat_natCast, List.getElem?_map, List.getElem?_eq_getElem hlt, List.getElem_idxOf hlt]
    rfl
  have sm : ∀ o ∈ spots g, small ((spots g).idxOf o : Nat) = true := fun o ho => by
    have hlt : (spots g).idxOf o < (spots g).length := List.idxOf_lt_length_of_mem ho
    have := spots_25 hg
    exact decide_eq_true (by omega)
  refine ⟨fun o ho => ?_, fun o ho => ?_⟩
  · rw [idx_L, sm o ho, if_pos rfl]; exact key o ho
  · rw [idx_T, sm o ho, if_pos rfl]; exact key o ho
/-- the pairs of one heard place, as a list, a tuple -/
def linL (g : Pt) (A : Pt → Int × Int) : D := .list ((spots g).map fun p => pt (A p))
def linT (g : Pt) (A : Pt → Int × Int) : D := .tuple ((spots g).map fun p => pt (A p))
def aheadD (g : Pt) : Option (Pt → Int × Int) → D
  | none => .none
  | some A => linL g A
def nextA (g : Pt) (R : List Rd) (h : Pt) : Option (Pt → Int × Int) → Pt → Int × Int
  | none => fun p => (0, dist p h)
  | some A => bndM g R h A
/-- the paper, from what stands ahead on -/
def papA (g : Pt) (R : List Rd) : Option (Pt → Int × Int) → List Pt → List (Pt → Int × Int)
  | _, [] => []
  | o, h :: r => nextA g R h o :: papA g R (some (nextA g R h o)) r
theorem bounds_eq {g : Pt} (hg : okGround g) (R : List Rd) (h : Pt) (o : Option (Pt → Int × Int)) : F_bounds_of [pt g, rds R, pt h, aheadD g o] = some (linL g (nextA g R h o)) := by
  cases o with
  | none => exact bounds0_eq hg _ h
  | some A => exact bounds1_eq hg R h rfl (ahead_of hg A).1
theorem pap_loop {g : Pt} (hg : okGround g) (R : List Rd) (row : D) : ∀ (hs : List Pt) (o : Option (Pt → Int × Int)) (f : List D), f.length + hs.length ≤ 1000 →
    ∃ x, loopGo (lpF (.nm 5) b_way_paper_1 [5]) (hs.map pt) [.d (pt g), .d (rds R), .d row, .ol f, .d (aheadD g o), .un] = some (.nx, [.d (pt g), .d (rds R), .d row, .ol (f ++ (papA g R o hs).map (linT g)), .d x, .un])
  | [], o, f, _ => ⟨_, by simp [loopGo, papA]; rfl⟩
  | h :: hs, o, f, hl => by
    rw [List.length_cons] at hl
    have L : lenOk f = true := decide_eq_true (by omega)
    have tt : evFn .tuple (linL g (nextA g R h o)) = some (linT g (nextA g R h o)) := rfl
    obtain ⟨x, ih⟩ := pap_loop hg R row hs (some (nextA g R h o)) (f ++ [linT g (nextA g R h o)]) (by rw [List.length_append]; simp; omega)
    refine ⟨x, ?_⟩
    have t : lpF (.nm 5) b_way_paper_1 [5] (pt h) [.d (pt g), .d (rds R), .d row, .ol f, .d (aheadD g o), .un] = some (.nx, [.d (pt g), .d (rds R), .d row, .ol (f ++ [linT g (nextA g R h o)]), .d (aheadD g (some (nextA g R h o))), .un]) := by
      rw [lpF_eq]
      simp only [b_way_paper_1, denSs, dS_asg, dS_asgO, dS_asgD, dS_asgT, dS_par, dS_app, dS_put, dS_ret, dS_ite, dS_exp, dS_setB, denT, denTs, den, denEs, denO, denIt, rdVar, isOwn, isOl, isOd, storeAll, bindT, wipeE, backE, plainSlot, walked, items, truth, asInt, outOf, List.getElem?_cons_zero, List.getElem?_cons_succ, List.set_cons_zero, List.set_cons_succ, Option.bind_some, Option.map_some, List.map_cons, List.map_nil, List.all_cons, List.all_nil, Bool.and_true, Bool.true_and, if_true, Bool.false_eq_true, if_false, bounds_eq hg, tt, L]
      rfl
    rw [List.map_cons]
    simp only [loopGo]
    rw [t, Option.bind_some]
    show loopGo _ _ _ = _
    rw [ih]
    simp only [papA, List.map_cons, List.append_assoc]
    rfl
theorem way_paper_eq {g : Pt} {R : List Rd} {row : List Pt} (hg : okGround g) (hR : okRoads g R) (hr : okRow g row) : F_way_paper [pt g, rds R, pts row] = some (.tuple ((papA g R none row).map (linT g))) := by
  have e : F_way_paper [pt g, rds R, pts row] = (denSs il_way_paper [.d (pt g), .d (rds R), .d (pts row), .un, .un, .un]).bind fun (o, _) => some (outOf o) := rfl
  obtain ⟨x, l⟩ := pap_loop hg R (pts row) row none [] (by have := hr.2.1; simp; omega)
  have l' : loopGo (lpF (.nm 5) b_way_paper_1 [5]) (row.map pt) [.d (pt g), .d (rds R), .d (pts row), .ol [], .d .none, .un] = some (.nx, [.d (pt g), .d (rds R), .d (pts row), .ol ([] ++ (papA g R none row).map (linT g)), .d x, .un]) := l
  have tt : ∀ xs : List D, evFn .tuple (.list xs) = some (.tuple xs) := fun _ => rfl
  rw [e]
  simp only [il_way_paper, denSs, dS_asg, dS_asgO, dS_asgD, dS_asgT, dS_par, dS_app, dS_put, dS_ret, dS_ite, dS_exp, dS_setB, denT, denTs, den, denEs, denO, denIt, rdVar, isOwn, isOl, isOd, storeAll, bindT, wipeE, backE, plainSlot, walked, items, truth, asInt, outOf, List.getElem?_cons_zero, List.getElem?_cons_succ, List.set_cons_zero, List.set_cons_succ, Option.bind_some, Option.map_some, List.map_cons, List.map_nil, List.all_cons, List.all_nil, Bool.and_true, Bool.true_and, if_true, Bool.false_eq_true, if_false, look_roads hg hR, look_row hr, dS_loop, l', List.nil_append, tt]
end WM.Pr
set_option Elab.async false
set_option linter.all false
set_option maxRecDepth 100000
set_option maxHeartbeats 4000000
/-! WmG3: the laws' own defs on grounds. -/
namespace WM.Pr
open PySem PySem.W WM

theorem law_far_eq (p q : Pt) : F__law_far [pt p, pt q] = some (.int (dist p q)) := by
  have e : F__law_far [pt p, pt q] = (denSs il__law_far [.d (pt p), .d (pt q)]).bind fun (o, _) => some (outOf o) := rfl
  rw [e]
  simp only [il__law_far, denSs, dS_asg, dS_asgO, dS_asgD, dS_asgT, dS_par, dS_app, dS_put, dS_ret, dS_ite, dS_exp, dS_setB, denT, denTs, den, denEs, denO, denIt, rdVar, isOwn, isOl, isOd, storeAll, bindT, wipeE, backE, plainSlot, walked, items, truth, asInt, outOf, List.getElem?_cons_zero, List.getElem?_cons_succ, List.set_cons_zero, List.set_cons_succ, Option.bind_some, Option.map_some, List.map_cons, List.map_nil, List.all_cons, List.all_nil, Bool.and_true, Bool.true_and, if_true, Bool.false_eq_true, if_false, ip0, ip1, ev_sub, ev_abs, ev_add]
  rfl
/-- whether a step is off the roads -/
def offM (R : List Rd) (p q : Pt) : Int := if p = q then 0 else if roadOf p q ∈ R then 0 else 1
theorem law_off_eq (R : List Rd) (p q : Pt) : F__law_off [rds R, pt p, pt q] = some (.int (offM R p q)) := by
  have e : F__law_off [rds R, pt p, pt q] = (denSs il__law_off [.d (rds R), .d (pt p), .d (pt q)]).bind fun (o, _) => some (outOf o) := rfl
  rw [e]
  have m1 : evFn2 .min (pt p) (pt q) = some (pt (minO p [q])) := minL_toD (α := Pt) (by decide) p [q]
  have m2 : evFn2 .max (pt p) (pt q) = some (pt (maxO p [q])) := maxL_toD (α := Pt) (by decide) p [q]
  have n : evCmp .nin (.tuple [pt (minO p [q]), pt (maxO p [q])]) (rds R) = some (!decide (roadOf p q ∈ R)) := nin_rds (roadOf p q) R
  unfold offM
  by_cases h : p = q
  · simp only [il__law_off, denSs, dS_asg, dS_asgO, dS_asgD, dS_asgT, dS_par, dS_app, dS_put, dS_ret, dS_ite, dS_exp, dS_setB, denT, denTs, den, denEs, denO, denIt, rdVar, isOwn, isOl, isOd, storeAll, bindT, wipeE, backE, plainSlot, walked, items, truth, asInt, outOf, List.getElem?_cons_zero, List.getElem?_cons_succ, List.set_cons_zero, List.set_cons_succ, Option.bind_some, Option.map_some, List.map_cons, List.map_nil, List.all_cons, List.all_nil, Bool.and_true, Bool.true_and, if_true, Bool.false_eq_true, if_false, ne_pt, h, ne_eq, not_true_eq_false, decide_false, ev_intB]
  · simp only [il__law_off, denSs, dS_asg, dS_asgO, dS_asgD, dS_asgT, dS_par, dS_app, dS_put, dS_ret, dS_ite, dS_exp, dS_setB, denT, denTs, den, denEs, denO, denIt, rdVar, isOwn, isOl, isOd, storeAll, bindT, wipeE, backE, plainSlot, walked, items, truth, asInt, outOf, List.getElem?_cons_zero, List.getElem?_cons_succ, List.set_cons_zero, List.set_cons_succ, Option.bind_some, Option.map_some, List.map_cons, List.map_nil, List.all_cons, List.all_nil, Bool.and_true, Bool.true_and, if_true, Bool.false_eq_true, if_false, ne_pt, h, ne_eq, not_false_eq_true, decide_true, m1, m2, n, ev_intB]
    by_cases h2 : roadOf p q ∈ R <;> simp [h2]
theorem ev_addL {xs ys : List D} (h : xs.length + ys.length ≤ 1000000) : evBin .add (.list xs) (.list ys) = some (.list (xs ++ ys)) := by
  show (if xs.length + ys.length ≤ 1000000 then some (PyData.list (xs ++ ys)) else none) = _
  rw [if_pos h]
theorem spots_turn {g : Pt} (hg : okGround g) (x : Nat) (acc : List D) (hl : acc.length ≤ 1000) (s : SV) (hs : s = .ol acc ∨ s = .d (.list acc)) : lpF (.nm 2) b__law_spots_1 [2] (.int x) [.d (pt g), s, .un, .un] = some (.nx, [.d (pt g), .d (.list (acc ++ (List.range g.2.toNat).map fun (y : Nat) => pt ((x : Int), (y : Int)))), .un, .un]) := by
  obtain ⟨h1, h2, h3, h4⟩ := hg
  have s2 : small g.2 = true := decide_eq_true (by omega)
  have L : lenOk ((List.range g.2.toNat).map fun (y : Nat) => pt ((x : Int), (y : Int))) = true := by
    unfold lenOk; rw [List.length_map, List.length_range]; exact decide_eq_true (by omega)
  have ad : evBin .add (.list acc) (.list ((List.range g.2.toNat).map fun (y : Nat) => pt ((x : Int), (y : Int)))) = some (.list (acc ++ (List.range g.2.toNat).map fun (y : Nat) => pt ((x : Int), (y : Int)))) := ev_addL (by rw [List.length_map, List.length_range]; omega)
  rw [lpF_eq]
  rcases hs with rfl | rfl
  all_goals
    simp only [b__law_spots_1, denSs, dS_asg, dS_asgO, dS_asgD, dS_asgT, dS_par, dS_app, dS_put, dS_ret, dS_ite, dS_exp, dS_setB, denT, denTs, den, denEs, denO, denIt, rdVar, isOwn, isOl, isOd, storeAll, bindT, wipeE, backE, plainSlot, walked, items, truth, asInt, outOf, List.getElem?_cons_zero, List.getElem?_cons_succ, List.set_cons_zero, List.set_cons_succ, Option.bind_some, Option.map_some, List.map_cons, List.map_nil, List.all_cons, List.all_nil, Bool.and_true, Bool.true_and, if_true, Bool.false_eq_true, if_false, ip1, s2, range0]
    rw [lcGo_of (d := fun (i : Nat) => PyData.int i) (h := fun (y : Nat) => pt ((x : Int), (y : Int))) _ (fun y _ => by simp only [denSs, dS_asg, dS_asgO, dS_asgD, dS_asgT, dS_par, dS_app, dS_put, dS_ret, dS_ite, dS_exp, dS_setB, denT, denTs, den, denEs, denO, denIt, rdVar, isOwn, isOl, isOd, storeAll, bindT, wipeE, backE, plainSlot, walked, items, truth, asInt, outOf, List.getElem?_cons_zero, List.getElem?_cons_succ, List.set_cons_zero, List.set_cons_succ, Option.bind_some, Option.map_some, List.map_cons, List.map_nil, List.all_cons, List.all_nil, Bool.and_true, Bool.true_and, if_true, Bool.false_eq_true, if_false])]
    simp only [denSs, dS_asg, dS_asgO, dS_asgD, dS_asgT, dS_par, dS_app, dS_put, dS_ret, dS_ite, dS_exp, dS_setB, denT, denTs, den, denEs, denO, denIt, rdVar, isOwn, isOl, isOd, storeAll, bindT, wipeE, backE, plainSlot, walked, items, truth, asInt, outOf, List.getElem?_cons_zero, List.getElem?_cons_succ, List.set_cons_zero, List.set_cons_succ, Option.bind_some, Option.map_some, List.map_cons, List.map_nil, List.all_cons, List.all_nil, Bool.and_true, Bool.true_and, if_true, Bool.false_eq_true, if_false, L, ad]
theorem spots_loop {g : Pt} (hg : okGround g) : ∀ (xs : List Nat) (acc : List D) (s : SV), (s = .ol acc ∨ s = .d (.list acc)) → acc.length + 5 * xs.length ≤ 1000 →
    ∃ s', loopGo (lpF (.nm 2) b__law_spots_1 [2]) (xs.map fun (i : Nat) => PyData.int i) [.d (pt g), s, .un, .un] = some (.nx, [.d (pt g), s', .un, .un]) ∧ (s' = .ol (acc ++ xs.flatMap fun (x : Nat) => (List.range g.2.toNat).map fun (y : Nat) => pt ((x : Int), (y : Int))) ∨ s' = .d (.list (acc ++ xs.flatMap fun (x : Nat) => (List.range g.2.toNat).map fun (y : Nat) => pt ((x : Int), (y : Int)))))
  | [], acc, s, hs, _ => ⟨s, rfl, by simpa using hs⟩
  | x :: xs, acc, s, hs, hl => by
    rw [List.length_cons] at hl
    have hg' := hg
    obtain ⟨h1, h2, h3, h4⟩ := hg'
    obtain ⟨s', l, hs'⟩ := spots_loop hg xs (acc ++ (List.range g.2.toNat).map fun (y : Nat) => pt ((x : Int), (y : Int))) _ (.inr rfl) (by rw [List.length_append, List.length_map, List.length_range]; omega)
    refine ⟨s', ?_, by simpa [List.flatMap_cons, List.append_assoc] using hs'⟩
    rw [List.map_cons]
    simp only [loopGo]
    rw [spots_turn hg x acc (by omega) s hs, Option.bind_some]
    exact l
theorem law_spots_eq {g : Pt} (hg : okGround g) : F__law_spots [pt g] = some (.list ((spots g).map pt)) := by
  have e : F__law_spots [pt g] = (denSs il__law_spots [.d (pt g), .un, .un, .un]).bind fun (o, _) => some (outOf o) := rfl
  have hg' := hg
  obtain ⟨h1, h2, h3, h4⟩ := hg'
  have s1 : small g.1 = true := decide_eq_true (by omega)
  obtain ⟨s', l, hs'⟩ := spots_loop hg (List.range g.1.toNat) [] (.ol []) (.inl rfl) (by rw [List.length_range]; simp; omega)
  have es : (spots g).map pt = (List.range g.1.toNat).flatMap fun (x : Nat) => (List.range g.2.toNat).map fun (y : Nat) => pt ((x : Int), (y : Int)) := by
    unfold spots
    rw [List.map_flatMap]
    refine congrArg (fun f => List.flatMap f (List.range g.1.toNat)) (funext fun x => ?_)
    rw [List.map_map]; rfl
  rw [e, es]
  rw [List.nil_append] at hs'
  rcases hs' with rfl | rfl <;> simp only [il__law_spots, denSs, dS_asg, dS_asgO, dS_asgD, dS_asgT, dS_par, dS_app, dS_put, dS_ret, dS_ite, dS_exp, dS_setB, denT, denTs, den, denEs, denO, denIt, rdVar, isOwn, isOl, isOd, storeAll, bindT, wipeE, backE, plainSlot, walked, items, truth, asInt, outOf, List.getElem?_cons_zero, List.getElem?_cons_succ, List.set_cons_zero, List.set_cons_succ, Option.bind_some, Option.map_some, List.map_cons, List.map_nil, List.all_cons, List.all_nil, Bool.and_true, Bool.true_and, if_true, Bool.false_eq_true, if_false, dS_loop, ip0, s1, range0, l]
end WM.Pr
set_option Elab.async false
set_option linter.all false
set_option maxRecDepth 100000
set_option maxHeartbeats 4000000
/-! WmG4: _law_bounds is the program's bounds_of. -/
namespace WM.Pr
open PySem PySem.W WM

/-- what the law adds for the point o, toward p -/
def lawF (R : List Rd) (A : Pt → Int × Int) (p : Pt) (slip : Int) (o : Pt) : List (Int × Int) := if dist o p < 2 then [((A o).1 + offM R o p, (A o).2 + slip)] else []
theorem lb_turn1 (R : List Rd) (A : Pt → Int × Int) (G HD AD : D) (f sm : List D) (p o : Pt) (slip : Int) (L : lenOk sm = true) :
    lpF (.tp [8, 9]) b__law_bounds_1 [8, 9] (.tuple [pt o, pt (A o)]) [.d G, .d (rds R), .d HD, .d AD, .ol f, .d (pt p), .d (.int slip), .ol sm, .un, .un] =
      some (.nx, [.d G, .d (rds R), .d HD, .d AD, .ol f, .d (pt p), .d (.int slip), .ol (sm ++ (lawF R A p slip o).map pt), .un, .un]) := by
  rw [lpF_eq]
  unfold lawF
  by_cases h : dist o p < 2
  · simp only [b__law_bounds_1, denSs, dS_asg, dS_asgO, dS_asgD, dS_asgT, dS_par, dS_app, dS_put, dS_ret, dS_ite, dS_exp, dS_setB, denT, denTs, den, denEs, denO, denIt, rdVar, isOwn, isOl, isOd, storeAll, bindT, wipeE, backE, plainSlot, walked, items, truth, asInt, outOf, List.getElem?_cons_zero, List.getElem?_cons_succ, List.set_cons_zero, List.set_cons_succ, Option.bind_some, Option.map_some, List.map_cons, List.map_nil, List.all_cons, List.all_nil, Bool.and_true, Bool.true_and, if_true, Bool.false_eq_true, if_false, law_far_eq, law_off_eq, ip0, ip1, ev_add, cmp_lt, h, decide_true, L, if_true, List.map_cons, List.map_nil]
  · simp only [b__law_bounds_1, denSs, dS_asg, dS_asgO, dS_asgD, dS_asgT, dS_par, dS_app, dS_put, dS_ret, dS_ite, dS_exp, dS_setB, denT, denTs, den, denEs, denO, denIt, rdVar, isOwn, isOl, isOd, storeAll, bindT, wipeE, backE, plainSlot, walked, items, truth, asInt, outOf, List.getElem?_cons_zero, List.getElem?_cons_succ, List.set_cons_zero, List.set_cons_succ, Option.bind_some, Option.map_some, List.map_cons, List.map_nil, List.all_cons, List.all_nil, Bool.and_true, Bool.true_and, if_true, Bool.false_eq_true, if_false, law_far_eq, law_off_eq, ip0, ip1, ev_add, cmp_lt, h, decide_false, L, if_false, List.map_nil, List.append_nil]
theorem dist_comm (p q : Pt) : dist p q = dist q p := by unfold dist absI; split <;> split <;> split <;> split <;> omega
theorem dist_lt (o p : Pt) : dist o p < 2 ↔ o = p ∨ dist p o = 1 := by
  obtain ⟨a, b⟩ := o
  obtain ⟨c, d⟩ := p
  unfold dist absI
  rw [Prod.mk.injEq]
  dsimp only
  split <;> split <;> split <;> split <;> omega
theorem lb_loop1 (R : List Rd) (A : Pt → Int × Int) (G HD AD : D) (f : List D) (p : Pt) (slip : Int) : ∀ (os : List Pt) (sm : List D), sm.length + os.length ≤ 1000 →
    loopGo (lpF (.tp [8, 9]) b__law_bounds_1 [8, 9]) (os.map fun o => PyData.tuple [pt o, pt (A o)]) [.d G, .d (rds R), .d HD, .d AD, .ol f, .d (pt p), .d (.int slip), .ol sm, .un, .un] =
      some (.nx, [.d G, .d (rds R), .d HD, .d AD, .ol f, .d (pt p), .d (.int slip), .ol (sm ++ (os.flatMap (lawF R A p slip)).map pt), .un, .un])
  | [], sm, _ => by simp [loopGo]
  | o :: os, sm, hl => by
    rw [List.length_cons] at hl
    have L : lenOk sm = true := decide_eq_true (by omega)
    have b : (lawF R A p slip o).length ≤ 1 := by unfold lawF; split <;> simp
    rw [List.map_cons]
    simp only [loopGo]
    rw [lb_turn1 R A G HD AD f sm p o slip L, Option.bind_some]
    show loopGo _ _ _ = _
    rw [lb_loop1 R A G HD AD f p slip os _ (by rw [List.length_append, List.length_map]; omega), List.flatMap_cons, List.map_append, List.append_assoc]
theorem pairUp_self (f : Pt → D) (h : Pt → D) (ps : List Pt) : pairUp (ps.map f) (ps.map h) = ps.map fun p => PyData.tuple [f p, h p] := by
  rw [pairUp_map]
  induction ps with
  | nil => rfl
  | cons p ps ih => rw [List.zip_cons_cons, List.map_cons, List.map_cons, ih]
theorem lb_turn0 {g : Pt} (R hd p : Pt) (RD : D) (f : List D) (L : lenOk f = true) :
    lpF (.nm 5) b__law_bounds_2 [5, 6, 7, 8, 9] (pt p) [.d (pt g), .d RD, .d (pt hd), .d .none, .ol f, .un, .un, .un, .un, .un] =
      some (.nx, [.d (pt g), .d RD, .d (pt hd), .d .none, .ol (f ++ [pt (0, dist p hd)]), .un, .un, .un, .un, .un]) := by
  have c : evCmp .isn .none .none = some false := rfl
  have m := min_pts (cs := [((0 : Int), dist p hd)]) (by simp)
  have m2 : evFn .min (.list [.tuple [.int 0, .int (dist p hd)]]) = some (pt (0, dist p hd)) := m
  rw [lpF_eq]
  simp only [b__law_bounds_2, denSs, dS_asg, dS_asgO, dS_asgD, dS_asgT, dS_par, dS_app, dS_put, dS_ret, dS_ite, dS_exp, dS_setB, denT, denTs, den, denEs, denO, denIt, rdVar, isOwn, isOl, isOd, storeAll, bindT, wipeE, backE, plainSlot, walked, items, truth, asInt, outOf, List.getElem?_cons_zero, List.getElem?_cons_succ, List.set_cons_zero, List.set_cons_succ, Option.bind_some, Option.map_some, List.map_cons, List.map_nil, List.all_cons, List.all_nil, Bool.and_true, Bool.true_and, if_true, Bool.false_eq_true, if_false, law_far_eq, c, m2, L]
  try rfl
/-- the law's bound for the point p -/
def bndL (g : Pt) (R : List Rd) (hd : Pt) (A : Pt → Int × Int) (p : Pt) : Int × Int := minL1 ((spots g).flatMap (lawF R A p (dist p hd)))
theorem lawF_ne {g p : Pt} (R : List Rd) (A : Pt → Int × Int) (slip : Int) (hp : p ∈ spots g) : (spots g).flatMap (lawF R A p slip) ≠ [] := by
  intro h
  have : ((A p).1 + offM R p p, (A p).2 + slip) ∈ (spots g).flatMap (lawF R A p slip) := List.mem_flatMap.mpr ⟨p, hp, by unfold lawF; rw [if_pos ((dist_lt p p).mpr (.inl rfl))]; exact List.mem_singleton.mpr rfl⟩
  rw [h] at this; cases this
theorem lb_turn2 {g hd p : Pt} (hg : okGround g) (hp : p ∈ spots g) (A : Pt → Int × Int) (R : List Rd) (f : List D) (L : lenOk f = true) :
    lpF (.nm 5) b__law_bounds_2 [5, 6, 7, 8, 9] (pt p) [.d (pt g), .d (rds R), .d (pt hd), .d (linT g A), .ol f, .un, .un, .un, .un, .un] =
      some (.nx, [.d (pt g), .d (rds R), .d (pt hd), .d (linT g A), .ol (f ++ [pt (bndL g R hd A p)]), .un, .un, .un, .un, .un]) := by
  have c : evCmp .isn (linT g A) .none = some true := rfl
  have l1 := lb_loop1 R A (pt g) (pt hd) (linT g A) f p (dist p hd) (spots g) [] (by have := spots_25 hg; simp; omega)
  have m := min_pts (lawF_ne R A (dist p hd) hp)
  rw [List.nil_append] at l1
  unfold linT at *
  rw [lpF_eq]
  simp only [b__law_bounds_2, denSs, dS_asg, dS_asgO, dS_asgD, dS_asgT, dS_par, dS_app, dS_put, dS_ret, dS_ite, dS_exp, dS_setB, denT, denTs, den, denEs, denO, denIt, rdVar, isOwn, isOl, isOd, storeAll, bindT, wipeE, backE, plainSlot, walked, items, truth, asInt, outOf, List.getElem?_cons_zero, List.getElem?_cons_succ, List.set_cons_zero, List.set_cons_succ, Option.bind_some, Option.map_some, List.map_cons, List.map_nil, List.all_cons, List.all_nil, Bool.and_true, Bool.true_and, if_true, Bool.false_eq_true, if_false, law_far_eq, law_spots_eq hg, c, dS_loop, pairUp_self, l1, m, L]
  try rfl
def nextL (g : Pt) (R : List Rd) (h : Pt) : Option (Pt → Int × Int) → Pt → Int × Int
  | none => fun p => (0, dist p h)
  | some A => bndL g R h A
def aheadT (g : Pt) : Option (Pt → Int × Int) → D
  | none => .none
  | some A => linT g A
theorem lb_turn {g hd p : Pt} (hg : okGround g) (hp : p ∈ spots g) (o : Option (Pt → Int × Int)) (R : List Rd) (f : List D) (L : lenOk f = true) :
    lpF (.nm 5) b__law_bounds_2 [5, 6, 7, 8, 9] (pt p) [.d (pt g), .d (rds R), .d (pt hd), .d (aheadT g o), .ol f, .un, .un, .un, .un, .un] =
      some (.nx, [.d (pt g), .d (rds R), .d (pt hd), .d (aheadT g o), .ol (f ++ [pt (nextL g R hd o p)]), .un, .un, .un, .un, .un]) := by
  cases o with
  | none => exact lb_turn0 (0, 0) hd p (rds R) f L
  | some A => exact lb_turn2 hg hp A R f L
theorem lb_loop {g hd : Pt} (hg : okGround g) (o : Option (Pt → Int × Int)) (R : List Rd) : ∀ (ps : List Pt) (f : List D), (∀ p ∈ ps, p ∈ spots g) → f.length + ps.length ≤ 1000 →
    loopGo (lpF (.nm 5) b__law_bounds_2 [5, 6, 7, 8, 9]) (ps.map pt) [.d (pt g), .d (rds R), .d (pt hd), .d (aheadT g o), .ol f, .un, .un, .un, .un, .un] =
      some (.nx, [.d (pt g), .d (rds R), .d (pt hd), .d (aheadT g o), .ol (f ++ ps.map fun p => pt (nextL g R hd o p)), .un, .un, .un, .un, .un])
  | [], f, _, _ => by simp [loopGo]
  | p :: ps, f, hs, hl => by
    rw [List.length_cons] at hl
    rw [List.map_cons]
    simp only [loopGo]
    rw [lb_turn hg (hs p List.mem_cons_self) o R f (decide_eq_true (by omega)), Option.bind_some]
    show loopGo _ _ _ = _
    rw [lb_loop hg o R ps _ (fun x hx => hs x (List.mem_cons_of_mem _ hx)) (by rw [List.length_append]; simp; omega), List.map_cons, List.append_assoc]
    rfl
theorem law_bounds_eq {g hd : Pt} (hg : okGround g) (R : List Rd) (o : Option (Pt → Int × Int)) : F__law_bounds [pt g, rds R, pt hd, aheadT g o] = some (linT g (nextL g R hd o)) := by
  have e : F__law_bounds [pt g, rds R, pt hd, aheadT g o] = (denSs il__law_bounds [.d (pt g), .d (rds R), .d (pt hd), .d (aheadT g o), .un, .un, .un, .un, .un, .un]).bind fun (o, _) => some (outOf o) := rfl
  have l := lb_loop (hd := hd) hg o R (spots g) [] (fun _ h => h) (by have := spots_25 hg; simp; omega)
  rw [List.nil_append] at l
  have t : evFn .tuple (.list ((spots g).map fun p => pt (nextL g R hd o p))) = some (linT g (nextL g R hd o)) := rfl
  rw [e]
  simp only [il__law_bounds, denSs, dS_asg, dS_asgO, dS_asgD, dS_asgT, dS_par, dS_app, dS_put, dS_ret, dS_ite, dS_exp, dS_setB, denT, denTs, den, denEs, denO, denIt, rdVar, isOwn, isOl, isOd, storeAll, bindT, wipeE, backE, plainSlot, walked, items, truth, asInt, outOf, List.getElem?_cons_zero, List.getElem?_cons_succ, List.set_cons_zero, List.set_cons_succ, Option.bind_some, Option.map_some, List.map_cons, List.map_nil, List.all_cons, List.all_nil, Bool.and_true, Bool.true_and, if_true, Bool.false_eq_true, if_false, dS_loop, law_spots_eq hg, l, t]
theorem lawF_step (R : List Rd) (A : Pt → Int × Int) (p : Pt) (slip : Int) (hR : ∀ o, roadOf o p = roadOf p o) (o : Pt) : lawF R A p slip o = (stepF R p o).map fun s => ((A s.1).1 + s.2, (A s.1).2 + slip) := by
  unfold lawF stepF offM
  by_cases h1 : o = p
  · rw [if_pos ((dist_lt o p).mpr (.inl h1)), if_pos h1, if_pos h1]; rfl
  · by_cases h2 : dist p o = 1
    · rw [if_pos ((dist_lt o p).mpr (.inr h2)), if_neg h1, if_neg h1, if_pos h2, hR]; rfl
    · rw [if_neg (fun h => ((dist_lt o p).mp h).elim h1 h2), if_neg h1, if_neg h2]; rfl
theorem bndL_eq (g : Pt) (R : List Rd) (hd : Pt) (A : Pt → Int × Int) (p : Pt) (hR : ∀ o, roadOf o p = roadOf p o) : bndL g R hd A p = bndM g R hd A p := by
  unfold bndL bndM stepsM
  rw [List.map_flatMap, funext (lawF_step R A p (dist p hd) hR)]
theorem lt_pt (p q : Pt) : DatumOrd.lt p q = true ↔ p.1 < q.1 ∨ (p.1 = q.1 ∧ p.2 < q.2) := by
  obtain ⟨a, b⟩ := p
  obtain ⟨c, d⟩ := q
  simp [DatumOrd.lt]
  split <;> omega
end WM.Pr
set_option Elab.async false
set_option linter.all false
set_option maxRecDepth 100000
set_option maxHeartbeats 4000000
/-! WmG5: _law_same, _law_in, and what is drawn: grounds, points, roads, rows. -/
namespace WM.Pr
open PySem PySem.W WM

theorem pairUp_zip (xs ys : List D) : pairUp xs ys = (xs.zip ys).map fun p => PyData.tuple [p.1, p.2] := by
  have := pairUp_map (id : D → D) (id : D → D) xs ys
  rwa [List.map_id, List.map_id] at this
theorem zip_all_eq : ∀ xs ys : List D, xs.length = ys.length → ((xs.zip ys).map fun p => decide (p.1 = p.2)).all id = decide (xs = ys)
  | [], [], _ => rfl
  | x :: xs, y :: ys, h => by
    rw [List.zip_cons_cons, List.map_cons, List.all_cons, zip_all_eq xs ys (by simpa using h)]
    show (decide (x = y) && decide (xs = ys)) = _
    rw [← Bool.decide_and]
    exact decide_eq_decide.mpr (by rw [List.cons.injEq])
theorem sane_mem {n : Nat} {xs : List D} {x : D} (h : xs.all (sane n) = true) (hx : x ∈ xs) : sane n x = true := (List.all_eq_true.mp h) x hx
theorem ev_eqI (a b : Int) : evCmp .eq (.int a) (.int b) = some (decide (a = b)) := eq_int a b
theorem ev_eqS (a b : Str) : evCmp .eq (.str a) (.str b) = some (decide (a = b)) := ev_eqD (α := Str) (by decide) a b
theorem ev_eqB (a b : Bool) : evCmp .eq (.bool a) (.bool b) = some (decide (a = b)) := ev_eqD (α := Bool) (by decide) a b
theorem is_none (d : D) : evCmp .is d .none = some (isNone d) := rfl
theorem isn_none (d : D) : evCmp .isn d .none = some (!isNone d) := rfl
theorem same_eq : ∀ (n : Nat) (a b : D), sane n a = true → sane n b = true → Fs__law_same n [a, b] = some (.bool (decide (a = b)))
  | 0, a, b, h, _ => by simp [sane] at h
  | n + 1, a, b, ha, hb => by
    have ih := same_eq n
    have e : Fs__law_same (n + 1) [a, b] = (denSs (il__law_same (Fs__law_same n)) [.d a, .d b, .un, .un]).bind fun (o, _) => some (outOf o) := rfl
    rw [e]
    have seq : ∀ (xs ys : List D) (A B : D), xs.all (sane n) = true → ys.all (sane n) = true → xs.length ≤ 1000000 → xs.length = ys.length →
        lcGo (lcF (.call "_law_same" (Fs__law_same n) (.cons (.var 2) (.cons (.var 3) .nil))) (.tp [2, 3]) .nil [2, 3]) (pairUp xs ys) [.d A, .d B, .un, .un] = some ((xs.zip ys).map fun p => PyData.bool (decide (p.1 = p.2)), [.d A, .d B, .un, .un]) := by
      intro xs ys A B hx hy hl hle
      rw [pairUp_zip]
      refine lcGo_of _ fun p hp => ?_
      have m := List.of_mem_zip (a := p.1) (b := p.2) hp
      simp only [lcF, denSs, dS_asg, dS_asgO, dS_asgD, dS_asgT, dS_par, dS_app, dS_put, dS_ret, dS_ite, dS_exp, dS_setB, denT, denTs, dE_var, dE_glo, dE_int, dE_str, dE_bl, dE_non, dE_tup, dE_lst, dE_bin, dE_neg, dE_cmp, dE_chn, dE_and, dE_or, dE_nt, dE_ite, dE_call, dE_callB, dE_fn, dE_fn2, dE_max3, dE_isi, dE_idx, dE_cut, dE_step, dE_index, dE_oIdx, dE_oIn, dE_oGet, dE_oLen, dE_oCmp, dE_sortK, dE_lc, dE_lc2, dE_dc, denEs, denO, denIt, rdVar, isOwn, isOl, isOd, storeAll, bindT, wipeE, backE, plainSlot, walked, items, truth, asInt, outOf, List.getElem?_cons_zero, List.getElem?_cons_succ, List.set_cons_zero, List.set_cons_succ, Option.bind_some, Option.map_some, List.map_cons, List.map_nil, List.all_cons, List.all_nil, Bool.and_true, Bool.true_and, if_true, Bool.false_eq_true, if_false, ih _ _ (sane_mem hx m.1) (sane_mem hy m.2)]
    have al : ∀ xs ys : List D, xs.length = ys.length → evFn .all (.list ((xs.zip ys).map fun p => PyData.bool (decide (p.1 = p.2)))) = some (.bool (decide (xs = ys))) := by
      intro xs ys h
      have := ev_all ((xs.zip ys).map fun p => decide (p.1 = p.2))
      rw [List.map_map, zip_all_eq xs ys h] at this
      exact this
    have L : ∀ xs ys : List D, xs.length ≤ 1000000 → lenOk ((xs.zip ys).map fun p => PyData.bool (decide (p.1 = p.2))) = true := by
      intro xs ys h
      unfold lenOk; rw [List.length_map]; exact decide_eq_true (Nat.le_trans (zip_len _ _) h)
    cases a with
    | list xs =>
      cases b with
      | list ys =>
        simp only [sane, Bool.and_eq_true, decide_eq_true_eq] at ha hb
        by_cases hl : xs.length = ys.length
        · have c : evCmp .eq (.int xs.length) (.int ys.length) = some true := by rw [eq_int, hl]; simp
          simp only [il__law_same, denSs, dS_asg, dS_asgO, dS_asgD, dS_asgT, dS_par, dS_app, dS_put, dS_ret, dS_ite, dS_exp, dS_setB, denT, denTs, dE_var, dE_glo, dE_int, dE_str, dE_bl, dE_non, dE_tup, dE_lst, dE_bin, dE_neg, dE_cmp, dE_chn, dE_and, dE_or, dE_nt, dE_ite, dE_call, dE_callB, dE_fn, dE_fn2, dE_max3, dE_isi, dE_idx, dE_cut, dE_step, dE_index, dE_oIdx, dE_oIn, dE_oGet, dE_oLen, dE_oCmp, dE_sortK, dE_lc, dE_lc2, dE_dc, denEs, denO, denIt, rdVar, isOwn, isOl, isOd, storeAll, bindT, wipeE, backE, plainSlot, walked, items, truth, asInt, outOf, List.getElem?_cons_zero, List.getElem?_cons_succ, List.set_cons_zero, List.set_cons_succ, Option.bind_some, Option.map_some, List.map_cons, List.map_nil, List.all_cons, List.all_nil, Bool.and_true, Bool.true_and, if_true, Bool.false_eq_true, if_false, plainSlot, List.any_cons, List.any_nil, isTy, Bool.or_false, Bool.or_true, Bool.or_self, ev_lenL, c, seq xs ys _ _ ha.2 hb.2 ha.1 hl, L xs ys ha.1, al xs ys hl, PyData.list.injEq]
        · have c : evCmp .eq (.int xs.length) (.int ys.length) = some false := by rw [eq_int]; exact congrArg some (decide_eq_false (by omega))
          have ne : ¬ xs = ys := fun z => hl (by rw [z])
          simp only [il__law_same, denSs, dS_asg, dS_asgO, dS_asgD, dS_asgT, dS_par, dS_app, dS_put, dS_ret, dS_ite, dS_exp, dS_setB, denT, denTs, dE_var, dE_glo, dE_int, dE_str, dE_bl, dE_non, dE_tup, dE_lst, dE_bin, dE_neg, dE_cmp, dE_chn, dE_and, dE_or, dE_nt, dE_ite, dE_call, dE_callB, dE_fn, dE_fn2, dE_max3, dE_isi, dE_idx, dE_cut, dE_step, dE_index, dE_oIdx, dE_oIn, dE_oGet, dE_oLen, dE_oCmp, dE_sortK, dE_lc, dE_lc2, dE_dc, denEs, denO, denIt, rdVar, isOwn, isOl, isOd, storeAll, bindT, wipeE, backE, plainSlot, walked, items, truth, asInt, outOf, List.getElem?_cons_zero, List.getElem?_cons_succ, List.set_cons_zero, List.set_cons_succ, Option.bind_some, Option.map_some, List.map_cons, List.map_nil, List.all_cons, List.all_nil, Bool.and_true, Bool.true_and, if_true, Bool.false_eq_true, if_false, plainSlot, List.any_cons, List.any_nil, isTy, Bool.or_false, Bool.or_true, Bool.or_self, ev_lenL, c, PyData.list.injEq, ne, decide_false]
      | dict _ => simp [sane] at hb
      | _ => simp [il__law_same, denSs, dS_asg, dS_asgO, dS_asgD, dS_asgT, dS_par, dS_app, dS_put, dS_ret, dS_ite, dS_exp, dS_setB, denT, denTs, dE_var, dE_glo, dE_int, dE_str, dE_bl, dE_non, dE_tup, dE_lst, dE_bin, dE_neg, dE_cmp, dE_chn, dE_and, dE_or, dE_nt, dE_ite, dE_call, dE_callB, dE_fn, dE_fn2, dE_max3, dE_isi, dE_idx, dE_cut, dE_step, dE_index, dE_oIdx, dE_oIn, dE_oGet, dE_oLen, dE_oCmp, dE_sortK, dE_lc, dE_lc2, dE_dc, denEs, denO, denIt, rdVar, isOwn, isOl, isOd, storeAll, bindT, wipeE, backE, plainSlot, walked, items, truth, asInt, outOf, List.getElem?_cons_zero, List.getElem?_cons_succ, List.set_cons_zero, List.set_cons_succ, Option.bind_some, Option.map_some, List.map_cons, List.map_nil, List.all_cons, List.all_nil, Bool.and_true, Bool.true_and, if_true, Bool.false_eq_true, if_false, plainSlot, List.any_cons, List.any_nil, isTy]
    | tuple xs =>
      cases b with
      | tuple ys =>
        simp only [sane, Bool.and_eq_true, decide_eq_true_eq] at ha hb
        by_cases hl : xs.length = ys.length
        · have c : evCmp .eq (.int xs.length) (.int ys.length) = some true := by rw [eq_int, hl]; simp
          simp only [il__law_same, denSs, dS_asg, dS_asgO, dS_asgD, dS_asgT, dS_par, dS_app, dS_put, dS_ret, dS_ite, dS_exp, dS_setB, denT, denTs, dE_var, dE_glo, dE_int, dE_str, dE_bl, dE_non, dE_tup, dE_lst, dE_bin, dE_neg, dE_cmp, dE_chn, dE_and, dE_or, dE_nt, dE_ite, dE_call, dE_callB, dE_fn, dE_fn2, dE_max3, dE_isi, dE_idx, dE_cut, dE_step, dE_index, dE_oIdx, dE_oIn, dE_oGet, dE_oLen, dE_oCmp, dE_sortK, dE_lc, dE_lc2, dE_dc, denEs, denO, denIt, rdVar, isOwn, isOl, isOd, storeAll, bindT, wipeE, backE, plainSlot, walked, items, truth, asInt, outOf, List.getElem?_cons_zero, List.getElem?_cons_succ, List.set_cons_zero, List.set_cons_succ, Option.bind_some, Option.map_some, List.map_cons, List.map_nil, List.all_cons, List.all_nil, Bool.and_true, Bool.true_and, if_true, Bool.false_eq_true, if_false, plainSlot, List.any_cons, List.any_nil, isTy, Bool.or_false, Bool.or_true, Bool.or_self, ev_lenT, c, seq xs ys _ _ ha.2 hb.2 ha.1 hl, L xs ys ha.1, al xs ys hl, PyData.tuple.injEq]
        · have c : evCmp .eq (.int xs.length) (.int ys.length) = some false := by rw [eq_int]; exact congrArg some (decide_eq_false (by omega))
          have ne : ¬ xs = ys := fun z => hl (by rw [z])
          simp only [il__law_same, denSs, dS_asg, dS_asgO, dS_asgD, dS_asgT, dS_par, dS_app, dS_put, dS_ret, dS_ite, dS_exp, dS_setB, denT, denTs, dE_var, dE_glo, dE_int, dE_str, dE_bl, dE_non, dE_tup, dE_lst, dE_bin, dE_neg, dE_cmp, dE_chn, dE_and, dE_or, dE_nt, dE_ite, dE_call, dE_callB, dE_fn, dE_fn2, dE_max3, dE_isi, dE_idx, dE_cut, dE_step, dE_index, dE_oIdx, dE_oIn, dE_oGet, dE_oLen, dE_oCmp, dE_sortK, dE_lc, dE_lc2, dE_dc, denEs, denO, denIt, rdVar, isOwn, isOl, isOd, storeAll, bindT, wipeE, backE, plainSlot, walked, items, truth, asInt, outOf, List.getElem?_cons_zero, List.getElem?_cons_succ, List.set_cons_zero, List.set_cons_succ, Option.bind_some, Option.map_some, List.map_cons, List.map_nil, List.all_cons, List.all_nil, Bool.and_true, Bool.true_and, if_true, Bool.false_eq_true, if_false, plainSlot, List.any_cons, List.any_nil, isTy, Bool.or_false, Bool.or_true, Bool.or_self, ev_lenT, c, PyData.tuple.injEq, ne, decide_false]
      | dict _ => simp [sane] at hb
      | _ => simp [il__law_same, denSs, dS_asg, dS_asgO, dS_asgD, dS_asgT, dS_par, dS_app, dS_put, dS_ret, dS_ite, dS_exp, dS_setB, denT, denTs, dE_var, dE_glo, dE_int, dE_str, dE_bl, dE_non, dE_tup, dE_lst, dE_bin, dE_neg, dE_cmp, dE_chn, dE_and, dE_or, dE_nt, dE_ite, dE_call, dE_callB, dE_fn, dE_fn2, dE_max3, dE_isi, dE_idx, dE_cut, dE_step, dE_index, dE_oIdx, dE_oIn, dE_oGet, dE_oLen, dE_oCmp, dE_sortK, dE_lc, dE_lc2, dE_dc, denEs, denO, denIt, rdVar, isOwn, isOl, isOd, storeAll, bindT, wipeE, backE, plainSlot, walked, items, truth, asInt, outOf, List.getElem?_cons_zero, List.getElem?_cons_succ, List.set_cons_zero, List.set_cons_succ, Option.bind_some, Option.map_some, List.map_cons, List.map_nil, List.all_cons, List.all_nil, Bool.and_true, Bool.true_and, if_true, Bool.false_eq_true, if_false, plainSlot, List.any_cons, List.any_nil, isTy]
    | dict _ => simp [sane] at ha
    | none =>
      cases b with
      | dict _ => simp [sane] at hb
      | _ => simp [il__law_same, denSs, dS_asg, dS_asgO, dS_asgD, dS_asgT, dS_par, dS_app, dS_put, dS_ret, dS_ite, dS_exp, dS_setB, denT, denTs, dE_var, dE_glo, dE_int, dE_str, dE_bl, dE_non, dE_tup, dE_lst, dE_bin, dE_neg, dE_cmp, dE_chn, dE_and, dE_or, dE_nt, dE_ite, dE_call, dE_callB, dE_fn, dE_fn2, dE_max3, dE_isi, dE_idx, dE_cut, dE_step, dE_index, dE_oIdx, dE_oIn, dE_oGet, dE_oLen, dE_oCmp, dE_sortK, dE_lc, dE_lc2, dE_dc, denEs, denO, denIt, rdVar, isOwn, isOl, isOd, storeAll, bindT, wipeE, backE, plainSlot, walked, items, truth, asInt, outOf, List.getElem?_cons_zero, List.getElem?_cons_succ, List.set_cons_zero, List.set_cons_succ, Option.bind_some, Option.map_some, List.map_cons, List.map_nil, List.all_cons, List.all_nil, Bool.and_true, Bool.true_and, if_true, Bool.false_eq_true, if_false, plainSlot, List.any_cons, List.any_nil, isTy, is_none, isNone, outOf]
    | bool x =>
      cases b with
      | dict _ => simp [sane] at hb
      | bool y => simp [il__law_same, denSs, dS_asg, dS_asgO, dS_asgD, dS_asgT, dS_par, dS_app, dS_put, dS_ret, dS_ite, dS_exp, dS_setB, denT, denTs, dE_var, dE_glo, dE_int, dE_str, dE_bl, dE_non, dE_tup, dE_lst, dE_bin, dE_neg, dE_cmp, dE_chn, dE_and, dE_or, dE_nt, dE_ite, dE_call, dE_callB, dE_fn, dE_fn2, dE_max3, dE_isi, dE_idx, dE_cut, dE_step, dE_index, dE_oIdx, dE_oIn, dE_oGet, dE_oLen, dE_oCmp, dE_sortK, dE_lc, dE_lc2, dE_dc, denEs, denO, denIt, rdVar, isOwn, isOl, isOd, storeAll, bindT, wipeE, backE, plainSlot, walked, items, truth, asInt, outOf, List.getElem?_cons_zero, List.getElem?_cons_succ, List.set_cons_zero, List.set_cons_succ, Option.bind_some, Option.map_some, List.map_cons, List.map_nil, List.all_cons, List.all_nil, Bool.and_true, Bool.true_and, if_true, Bool.false_eq_true, if_false, plainSlot, List.any_cons, List.any_nil, isTy, ev_eqB, outOf]
      | _ => simp [il__law_same, denSs, dS_asg, dS_asgO, dS_asgD, dS_asgT, dS_par, dS_app, dS_put, dS_ret, dS_ite, dS_exp, dS_setB, denT, denTs, dE_var, dE_glo, dE_int, dE_str, dE_bl, dE_non, dE_tup, dE_lst, dE_bin, dE_neg, dE_cmp, dE_chn, dE_and, dE_or, dE_nt, dE_ite, dE_call, dE_callB, dE_fn, dE_fn2, dE_max3, dE_isi, dE_idx, dE_cut, dE_step, dE_index, dE_oIdx, dE_oIn, dE_oGet, dE_oLen, dE_oCmp, dE_sortK, dE_lc, dE_lc2, dE_dc, denEs, denO, denIt, rdVar, isOwn, isOl, isOd, storeAll, bindT, wipeE, backE, plainSlot, walked, items, truth, asInt, outOf, List.getElem?_cons_zero, List.getElem?_cons_succ, List.set_cons_zero, List.set_cons_succ, Option.bind_some, Option.map_some, List.map_cons, List.map_nil, List.all_cons, List.all_nil, Bool.and_true, Bool.true_and, if_true, Bool.false_eq_true, if_false, plainSlot, List.any_cons, List.any_nil, isTy, is_none, isNone, outOf]
    | int x =>
      cases b with
      | dict _ => simp [sane] at hb
      | int y => simp [il__law_same, denSs, dS_asg, dS_asgO, dS_asgD, dS_asgT, dS_par, dS_app, dS_put, dS_ret, dS_ite, dS_exp, dS_setB, denT, denTs, dE_var, dE_glo, dE_int, dE_str, dE_bl, dE_non, dE_tup, dE_lst, dE_bin, dE_neg, dE_cmp, dE_chn, dE_and, dE_or, dE_nt, dE_ite, dE_call, dE_callB, dE_fn, dE_fn2, dE_max3, dE_isi, dE_idx, dE_cut, dE_step, dE_index, dE_oIdx, dE_oIn, dE_oGet, dE_oLen, dE_oCmp, dE_sortK, dE_lc, dE_lc2, dE_dc, denEs, denO, denIt, rdVar, isOwn, isOl, isOd, storeAll, bindT, wipeE, backE, plainSlot, walked, items, truth, asInt, outOf, List.getElem?_cons_zero, List.getElem?_cons_succ, List.set_cons_zero, List.set_cons_succ, Option.bind_some, Option.map_some, List.map_cons, List.map_nil, List.all_cons, List.all_nil, Bool.and_true, Bool.true_and, if_true, Bool.false_eq_true, if_false, plainSlot, List.any_cons, List.any_nil, isTy, ev_eqI, outOf]
      | _ => simp [il__law_same, denSs, dS_asg, dS_asgO, dS_asgD, dS_asgT, dS_par, dS_app, dS_put, dS_ret, dS_ite, dS_exp, dS_setB, denT, denTs, dE_var, dE_glo, dE_int, dE_str, dE_bl, dE_non, dE_tup, dE_lst, dE_bin, dE_neg, dE_cmp, dE_chn, dE_and, dE_or, dE_nt, dE_ite, dE_call, dE_callB, dE_fn, dE_fn2, dE_max3, dE_isi, dE_idx, dE_cut, dE_step, dE_index, dE_oIdx, dE_oIn, dE_oGet, dE_oLen, dE_oCmp, dE_sortK, dE_lc, dE_lc2, dE_dc, denEs, denO, denIt, rdVar, isOwn, isOl, isOd, storeAll, bindT, wipeE, backE, plainSlot, walked, items, truth, asInt, outOf, List.getElem?_cons_zero, List.getElem?_cons_succ, List.set_cons_zero, List.set_cons_succ, Option.bind_some, Option.map_some, List.map_cons, List.map_nil, List.all_cons, List.all_nil, Bool.and_true, Bool.true_and, if_true, Bool.false_eq_true, if_false, plainSlot, List.any_cons, List.any_nil, isTy, is_none, isNone, outOf]
    | str x =>
      cases b with
      | dict _ => simp [sane] at hb
      | str y => simp [il__law_same, denSs, dS_asg, dS_asgO, dS_asgD, dS_asgT, dS_par, dS_app, dS_put, dS_ret, dS_ite, dS_exp, dS_setB, denT, denTs, dE_var, dE_glo, dE_int, dE_str, dE_bl, dE_non, dE_tup, dE_lst, dE_bin, dE_neg, dE_cmp, dE_chn, dE_and, dE_or, dE_nt, dE_ite, dE_call, dE_callB, dE_fn, dE_fn2, dE_max3, dE_isi, dE_idx, dE_cut, dE_step, dE_index, dE_oIdx, dE_oIn, dE_oGet, dE_oLen, dE_oCmp, dE_sortK, dE_lc, dE_lc2, dE_dc, denEs, denO, denIt, rdVar, isOwn, isOl, isOd, storeAll, bindT, wipeE, backE, plainSlot, walked, items, truth, asInt, outOf, List.getElem?_cons_zero, List.getElem?_cons_succ, List.set_cons_zero, List.set_cons_succ, Option.bind_some, Option.map_some, List.map_cons, List.map_nil, List.all_cons, List.all_nil, Bool.and_true, Bool.true_and, if_true, Bool.false_eq_true, if_false, plainSlot, List.any_cons, List.any_nil, isTy, ev_eqS, outOf]
      | _ => simp [il__law_same, denSs, dS_asg, dS_asgO, dS_asgD, dS_asgT, dS_par, dS_app, dS_put, dS_ret, dS_ite, dS_exp, dS_setB, denT, denTs, dE_var, dE_glo, dE_int, dE_str, dE_bl, dE_non, dE_tup, dE_lst, dE_bin, dE_neg, dE_cmp, dE_chn, dE_and, dE_or, dE_nt, dE_ite, dE_call, dE_callB, dE_fn, dE_fn2, dE_max3, dE_isi, dE_idx, dE_cut, dE_step, dE_index, dE_oIdx, dE_oIn, dE_oGet, dE_oLen, dE_oCmp, dE_sortK, dE_lc, dE_lc2, dE_dc, denEs, denO, denIt, rdVar, isOwn, isOl, isOd, storeAll, bindT, wipeE, backE, plainSlot, walked, items, truth, asInt, outOf, List.getElem?_cons_zero, List.getElem?_cons_succ, List.set_cons_zero, List.set_cons_succ, Option.bind_some, Option.map_some, List.map_cons, List.map_nil, List.all_cons, List.all_nil, Bool.and_true, Bool.true_and, if_true, Bool.false_eq_true, if_false, plainSlot, List.any_cons, List.any_nil, isTy, is_none, isNone, outOf]
theorem law_same {a b : D} (ha : sane 8 a = true) (hb : sane 8 b = true) : F__law_same [a, b] = some (.bool (decide (a = b))) := same_eq 8 a b ha hb
theorem law_in_eq (i lo hi : Int) : F__law_in [.int i, .int lo, .int hi] = some (.bool (decide (lo ≤ i ∧ i ≤ hi))) := by
  have e : F__law_in [.int i, .int lo, .int hi] = (denSs il__law_in [.d (.int i), .d (.int lo), .d (.int hi)]).bind fun (o, _) => some (outOf o) := rfl
  rw [e]
  simp only [il__law_in, denSs, dS_asg, dS_asgO, dS_asgD, dS_asgT, dS_par, dS_app, dS_put, dS_ret, dS_ite, dS_exp, dS_setB, denT, denTs, dE_var, dE_glo, dE_int, dE_str, dE_bl, dE_non, dE_tup, dE_lst, dE_bin, dE_neg, dE_cmp, dE_chn, dE_and, dE_or, dE_nt, dE_ite, dE_call, dE_callB, dE_fn, dE_fn2, dE_max3, dE_isi, dE_idx, dE_cut, dE_step, dE_index, dE_oIdx, dE_oIn, dE_oGet, dE_oLen, dE_oCmp, dE_sortK, dE_lc, dE_lc2, dE_dc, denEs, denO, denIt, rdVar, isOwn, isOl, isOd, storeAll, bindT, wipeE, backE, plainSlot, walked, items, truth, asInt, outOf, List.getElem?_cons_zero, List.getElem?_cons_succ, List.set_cons_zero, List.set_cons_succ, Option.bind_some, Option.map_some, List.map_cons, List.map_nil, List.all_cons, List.all_nil, Bool.and_true, Bool.true_and, if_true, Bool.false_eq_true, if_false, List.any_cons, List.any_nil, isTy, Bool.or_false, Bool.not_false, cmp_le]
  by_cases h1 : lo ≤ i
  · by_cases h2 : i ≤ hi <;> simp [h1, h2, outOf]
  · simp [h1, outOf]
theorem law_in_no (d lo hi : D) (h : isInt d = false) : F__law_in [d, lo, hi] = some (.bool false) := by
  have e : F__law_in [d, lo, hi] = (denSs il__law_in [.d d, .d lo, .d hi]).bind fun (o, _) => some (outOf o) := rfl
  rw [e]
  cases d with
  | int i => cases h
  | _ => simp [il__law_in, denSs, dS_asg, dS_asgO, dS_asgD, dS_asgT, dS_par, dS_app, dS_put, dS_ret, dS_ite, dS_exp, dS_setB, denT, denTs, dE_var, dE_glo, dE_int, dE_str, dE_bl, dE_non, dE_tup, dE_lst, dE_bin, dE_neg, dE_cmp, dE_chn, dE_and, dE_or, dE_nt, dE_ite, dE_call, dE_callB, dE_fn, dE_fn2, dE_max3, dE_isi, dE_idx, dE_cut, dE_step, dE_index, dE_oIdx, dE_oIn, dE_oGet, dE_oLen, dE_oCmp, dE_sortK, dE_lc, dE_lc2, dE_dc, denEs, denO, denIt, rdVar, isOwn, isOl, isOd, storeAll, bindT, wipeE, backE, plainSlot, walked, items, truth, asInt, outOf, List.getElem?_cons_zero, List.getElem?_cons_succ, List.set_cons_zero, List.set_cons_succ, Option.bind_some, Option.map_some, List.map_cons, List.map_nil, List.all_cons, List.all_nil, Bool.and_true, Bool.true_and, if_true, Bool.false_eq_true, if_false, List.any_cons, List.any_nil, isTy, Bool.or_false, outOf]
/-! ### draws -/
theorem law_take {n : Nat} {xs : List D} {many : Int} (h : BagOk (n + 1) xs) (h1 : 0 < many) (h2 : many < 1073741824) : ∃ r xs', F__law_take xs [.int many] = some (.int r, xs') ∧ 0 ≤ r ∧ r < many ∧ BagOk n xs' := take_ok h h1 h2
theorem law_ground {n : Nat} {xs : List D} {most : Int} (h : BagOk (n + 2) xs) (h1 : 0 < most) (h2 : most ≤ 5) : ∃ g xs', F__law_ground xs [.int most] = some (pt g, xs') ∧ okGround g ∧ g.1 ≤ most ∧ g.2 ≤ most ∧ BagOk n xs' := by
  obtain ⟨r1, y1, e1, a1, b1, k1⟩ := law_take (n := n + 1) h h1 (by omega)
  obtain ⟨r2, y2, e2, a2, b2, k2⟩ := law_take k1 h1 (by omega)
  refine ⟨(1 + r1, 1 + r2), y2, ?_, ⟨by show (1 : Int) ≤ 1 + r1; omega, by show 1 + r1 ≤ 5; omega, by show (1 : Int) ≤ 1 + r2; omega, by show 1 + r2 ≤ 5; omega⟩, by show 1 + r1 ≤ most; omega, by show 1 + r2 ≤ most; omega, k2⟩
  have e : F__law_ground xs [.int most] = (denSs il__law_ground [.bo xs, .d (.int most)]).bind fun (o, ρ) => (lentOf ρ[0]?).bind fun xs' => some (outOf o, xs') := rfl
  rw [e]
  simp only [il__law_ground, denSs, dS_asg, dS_asgO, dS_asgD, dS_asgT, dS_par, dS_app, dS_put, dS_ret, dS_ite, dS_exp, dS_setB, denT, denTs, dE_var, dE_glo, dE_int, dE_str, dE_bl, dE_non, dE_tup, dE_lst, dE_bin, dE_neg, dE_cmp, dE_chn, dE_and, dE_or, dE_nt, dE_ite, dE_call, dE_callB, dE_fn, dE_fn2, dE_max3, dE_isi, dE_idx, dE_cut, dE_step, dE_index, dE_oIdx, dE_oIn, dE_oGet, dE_oLen, dE_oCmp, dE_sortK, dE_lc, dE_lc2, dE_dc, denEs, denO, denIt, rdVar, isOwn, isOl, isOd, storeAll, bindT, wipeE, backE, plainSlot, walked, items, truth, asInt, outOf, List.getElem?_cons_zero, List.getElem?_cons_succ, List.set_cons_zero, List.set_cons_succ, Option.bind_some, Option.map_some, List.map_cons, List.map_nil, List.all_cons, List.all_nil, Bool.and_true, Bool.true_and, if_true, Bool.false_eq_true, if_false, e1, e2, ev_add, lentOf]
theorem law_point {n : Nat} {xs : List D} {g : Pt} (h : BagOk (n + 2) xs) (hg : okGround g) : ∃ p xs', F__law_point xs [pt g] = some (pt p, xs') ∧ p ∈ spots g ∧ BagOk n xs' := by
  obtain ⟨h1, h2, h3, h4⟩ := hg
  obtain ⟨r1, y1, e1, a1, b1, k1⟩ := law_take (n := n + 1) (many := g.1) h (by omega) (by omega)
  obtain ⟨r2, y2, e2, a2, b2, k2⟩ := law_take (many := g.2) k1 (by omega) (by omega)
  refine ⟨(r1, r2), y2, ?_, spots_mem.mpr ⟨a1, b1, a2, b2⟩, k2⟩
  have e : F__law_point xs [pt g] = (denSs il__law_point [.bo xs, .d (pt g)]).bind fun (o, ρ) => (lentOf ρ[0]?).bind fun xs' => some (outOf o, xs') := rfl
  rw [e]
  simp only [il__law_point, denSs, dS_asg, dS_asgO, dS_asgD, dS_asgT, dS_par, dS_app, dS_put, dS_ret, dS_ite, dS_exp, dS_setB, denT, denTs, dE_var, dE_glo, dE_int, dE_str, dE_bl, dE_non, dE_tup, dE_lst, dE_bin, dE_neg, dE_cmp, dE_chn, dE_and, dE_or, dE_nt, dE_ite, dE_call, dE_callB, dE_fn, dE_fn2, dE_max3, dE_isi, dE_idx, dE_cut, dE_step, dE_index, dE_oIdx, dE_oIn, dE_oGet, dE_oLen, dE_oCmp, dE_sortK, dE_lc, dE_lc2, dE_dc, denEs, denO, denIt, rdVar, isOwn, isOl, isOd, storeAll, bindT, wipeE, backE, plainSlot, walked, items, truth, asInt, outOf, List.getElem?_cons_zero, List.getElem?_cons_succ, List.set_cons_zero, List.set_cons_succ, Option.bind_some, Option.map_some, List.map_cons, List.map_nil, List.all_cons, List.all_nil, Bool.and_true, Bool.true_and, if_true, Bool.false_eq_true, if_false, ip0, ip1, e1, e2, lentOf]
/-! ### all roads -/
def roadsAt (g : Pt) (x y : Nat) : List Rd := (if (y : Int) + 1 < g.2 then [(((x : Int), (y : Int)), ((x : Int), (y : Int) + 1))] else []) ++ (if (x : Int) + 1 < g.1 then [(((x : Int), (y : Int)), ((x : Int) + 1, (y : Int)))] else [])
def allRoads (g : Pt) : List Rd := (List.range g.1.toNat).flatMap fun x => (List.range g.2.toNat).flatMap (roadsAt g x)
theorem mul_bit (x : D) (b : Bool) : evBin .mul (.list [x]) (.int (if b then 1 else 0)) = some (.list (if b then [x] else [])) := by cases b <;> rfl
theorem ar_turn (g : Pt) (x y : Nat) (acc : List D) (hl : acc.length ≤ 1000) (s : SV) (hs : s = .ol acc ∨ s = .d (.list acc)) : lpF (.nm 3) b__law_all_roads_1 [3] (.int y) [.d (pt g), s, .d (.int x), .un] = some (.nx, [.d (pt g), .d (.list (acc ++ (roadsAt g x y).map rd)), .d (.int x), .un]) := by
  have a1 : ∀ ys : List D, ys.length ≤ 2 → evBin .add (.list acc) (.list ys) = some (.list (acc ++ ys)) := fun ys h => ev_addL (by omega)
  have a2 : ∀ zs ys : List D, zs.length ≤ 2 → ys.length ≤ 2 → evBin .add (.list (acc ++ zs)) (.list ys) = some (.list (acc ++ zs ++ ys)) := fun zs ys h h2 => ev_addL (by rw [List.length_append]; omega)
  have l1 : ∀ (b : Bool) (x : D), (if b = true then [x] else []).length ≤ 2 := fun b x => by cases b <;> simp
  rw [lpF_eq]
  rcases hs with rfl | rfl
  all_goals
    simp only [b__law_all_roads_1, denSs, dS_asg, dS_asgO, dS_asgD, dS_asgT, dS_par, dS_app, dS_put, dS_ret, dS_ite, dS_exp, dS_setB, denT, denTs, dE_var, dE_glo, dE_int, dE_str, dE_bl, dE_non, dE_tup, dE_lst, dE_bin, dE_neg, dE_cmp, dE_chn, dE_and, dE_or, dE_nt, dE_ite, dE_call, dE_callB, dE_fn, dE_fn2, dE_max3, dE_isi, dE_idx, dE_cut, dE_step, dE_index, dE_oIdx, dE_oIn, dE_oGet, dE_oLen, dE_oCmp, dE_sortK, dE_lc, dE_lc2, dE_dc, denEs, denO, denIt, rdVar, isOwn, isOl, isOd, storeAll, bindT, wipeE, backE, plainSlot, walked, items, truth, asInt, outOf, List.getElem?_cons_zero, List.getElem?_cons_succ, List.set_cons_zero, List.set_cons_succ, Option.bind_some, Option.map_some, List.map_cons, List.map_nil, List.all_cons, List.all_nil, Bool.and_true, Bool.true_and, if_true, Bool.false_eq_true, if_false, ip0, ip1, ev_add, cmp_lt, ev_intB, mul_bit, a1 _ (l1 _ _), a2 _ _ (l1 _ _) (l1 _ _)]
    unfold roadsAt
    by_cases c1 : (y : Int) + 1 < g.2 <;> by_cases c2 : (x : Int) + 1 < g.1 <;> simp [c1, c2]
theorem roadsAt_len (g : Pt) (x y : Nat) : (roadsAt g x y).length ≤ 2 := by
  unfold roadsAt
  rw [List.length_append]
  split <;> split <;> simp
theorem flat_len2 {β γ : Type} {k : Nat} (f : β → List γ) (h : ∀ b, (f b).length ≤ k) : ∀ xs : List β, (xs.flatMap f).length ≤ k * xs.length
  | [] => Nat.le_refl _
  | x :: xs => by rw [List.flatMap_cons, List.length_append, List.length_cons, Nat.mul_add]; have := h x; have := flat_len2 f h xs; omega
theorem ar_loop1 (g : Pt) (x : Nat) : ∀ (ys : List Nat) (acc : List D) (s : SV), (s = .ol acc ∨ s = .d (.list acc)) → acc.length + 2 * ys.length ≤ 1000 →
    ∃ s', loopGo (lpF (.nm 3) b__law_all_roads_1 [3]) (ys.map fun (i : Nat) => PyData.int i) [.d (pt g), s, .d (.int x), .un] = some (.nx, [.d (pt g), s', .d (.int x), .un]) ∧ (s' = .ol (acc ++ (ys.flatMap (roadsAt g x)).map rd) ∨ s' = .d (.list (acc ++ (ys.flatMap (roadsAt g x)).map rd)))
  | [], acc, s, hs, _ => ⟨s, rfl, by simpa using hs⟩
  | y :: ys, acc, s, hs, hl => by
    rw [List.length_cons] at hl
    have b := roadsAt_len g x y
    obtain ⟨s', l, hs'⟩ := ar_loop1 g x ys (acc ++ (roadsAt g x y).map rd) _ (.inr rfl) (by rw [List.length_append, List.length_map]; omega)
    refine ⟨s', ?_, by simpa [List.flatMap_cons, List.append_assoc] using hs'⟩
    rw [List.map_cons]
    simp only [loopGo]
    rw [ar_turn g x y acc (by omega) s hs, Option.bind_some]
    exact l
theorem ar_loop2 {g : Pt} (hg : okGround g) : ∀ (xs : List Nat) (acc : List D) (s : SV), (s = .ol acc ∨ s = .d (.list acc)) → acc.length + 10 * xs.length ≤ 1000 →
    ∃ s', loopGo (lpF (.nm 2) b__law_all_roads_2 [2, 3]) (xs.map fun (i : Nat) => PyData.int i) [.d (pt g), s, .un, .un] = some (.nx, [.d (pt g), s', .un, .un]) ∧ (s' = .ol (acc ++ (xs.flatMap fun x => (List.range g.2.toNat).flatMap (roadsAt g x)).map rd) ∨ s' = .d (.list (acc ++ (xs.flatMap fun x => (List.range g.2.toNat).flatMap (roadsAt g x)).map rd)))
  | [], acc, s, hs, _ => ⟨s, rfl, by simpa using hs⟩
  | x :: xs, acc, s, hs, hl => by
    rw [List.length_cons] at hl
    have hg' := hg
    obtain ⟨h1, h2, h3, h4⟩ := hg'
    have s2 : small g.2 = true := decide_eq_true (by omega)
    have b := flat_len2 (roadsAt g x) (roadsAt_len g x) (List.range g.2.toNat)
    rw [List.length_range] at b
    obtain ⟨s1, l1, hs1⟩ := ar_loop1 g x (List.range g.2.toNat) acc s hs (by rw [List.length_range]; omega)
    obtain ⟨s', l, hs'⟩ := ar_loop2 hg xs (acc ++ ((List.range g.2.toNat).flatMap (roadsAt g x)).map rd) s1 hs1 (by rw [List.length_append, List.length_map]; omega)
    refine ⟨s', ?_, by simpa [List.flatMap_cons, List.append_assoc] using hs'⟩
    have t : lpF (.nm 2) b__law_all_roads_2 [2, 3] (.int x) [.d (pt g), s, .un, .un] = some (.nx, [.d (pt g), s1, .un, .un]) := by
      rw [lpF_eq]
      simp only [b__law_all_roads_2, denSs, dS_asg, dS_asgO, dS_asgD, dS_asgT, dS_par, dS_app, dS_put, dS_ret, dS_ite, dS_exp, dS_setB, denT, denTs, dE_var, dE_glo, dE_int, dE_str, dE_bl, dE_non, dE_tup, dE_lst, dE_bin, dE_neg, dE_cmp, dE_chn, dE_and, dE_or, dE_nt, dE_ite, dE_call, dE_callB, dE_fn, dE_fn2, dE_max3, dE_isi, dE_idx, dE_cut, dE_step, dE_index, dE_oIdx, dE_oIn, dE_oGet, dE_oLen, dE_oCmp, dE_sortK, dE_lc, dE_lc2, dE_dc, denEs, denO, denIt, rdVar, isOwn, isOl, isOd, storeAll, bindT, wipeE, backE, plainSlot, walked, items, truth, asInt, outOf, List.getElem?_cons_zero, List.getElem?_cons_succ, List.set_cons_zero, List.set_cons_succ, Option.bind_some, Option.map_some, List.map_cons, List.map_nil, List.all_cons, List.all_nil, Bool.and_true, Bool.true_and, if_true, Bool.false_eq_true, if_false, dS_loop, ip1, s2, range0, l1]
    rw [List.map_cons]
    simp only [loopGo]
    rw [t, Option.bind_some]
    exact l
theorem pw_of_rising {α : Type} [DecidableEq α] [DatumOrd α] : ∀ xs : List α, rising xs = true → xs.Pairwise fun a b => DatumOrd.lt a b = true
  | [], _ => List.Pairwise.nil
  | [x], _ => List.pairwise_singleton _ _
  | x :: y :: r, h => by
    have h' : (DatumOrd.lt x y && rising (y :: r)) = true := h
    rw [Bool.and_eq_true] at h'
    have ih := pw_of_rising (y :: r) h'.2
    rw [List.pairwise_cons]
    refine ⟨fun z hz => ?_, ih⟩
    rcases List.mem_cons.mp hz with rfl | hz
    · exact h'.1
    · exact ol_tr h'.1 ((List.pairwise_cons.mp ih).1 z hz)
theorem rising_of_pw {α : Type} [DecidableEq α] [DatumOrd α] : ∀ xs : List α, xs.Pairwise (fun a b => DatumOrd.lt a b = true) → rising xs = true
  | [], _ => rfl
  | [x], _ => rfl
  | x :: y :: r, h => by
    show (DatumOrd.lt x y && rising (y :: r)) = true
    rw [List.pairwise_cons] at h
    rw [h.1 y List.mem_cons_self, rising_of_pw (y :: r) h.2]; rfl
instance (g p : Pt) : Decidable (okPt g p) := inferInstanceAs (Decidable (_ ∧ _))
instance (g : Pt) (r : Rd) : Decidable (okRd g r) := inferInstanceAs (Decidable (_ ∧ _))
theorem allRoads_fin : ∀ a ∈ [(1 : Int), 2, 3, 4, 5], ∀ b ∈ [(1 : Int), 2, 3, 4, 5], rising (allRoads (a, b)) = true ∧ (allRoads (a, b)).length ≤ 40 ∧ ∀ r ∈ allRoads (a, b), okRd (a, b) r := by decide +kernel
theorem mem15 {i : Int} (h1 : 1 ≤ i) (h2 : i ≤ 5) : i ∈ [(1 : Int), 2, 3, 4, 5] := by
  have : i = 1 ∨ i = 2 ∨ i = 3 ∨ i = 4 ∨ i = 5 := by omega
  rcases this with rfl | rfl | rfl | rfl | rfl <;> decide
theorem allRoads_ok {g : Pt} (hg : okGround g) : okRoads g (allRoads g) := by
  obtain ⟨h1, h2, h3, h4⟩ := hg
  have := allRoads_fin g.1 (mem15 h1 h2) g.2 (mem15 h3 h4)
  exact ⟨this.2.1, this.2.2, this.1⟩
theorem sub_roads {g : Pt} {R S : List Rd} (h : okRoads g S) (hs : R.Sublist S) : okRoads g R := ⟨Nat.le_trans hs.length_le h.1, fun r hr => h.2.1 r (hs.subset hr), rising_of_pw _ ((pw_of_rising _ h.2.2).sublist hs)⟩
theorem keydL_rds : ∀ R : List Rd, keydL (R.map rd) = true
  | [] => rfl
  | r :: R => by rw [List.map_cons, keydL, keydL_rds R]; rfl
theorem sorted_rds (R : List Rd) (h : R.Pairwise fun a b => DatumOrd.lt a b = true) : evFn .sorted (.list (R.map rd)) = some (.list (R.map rd)) := by
  have e : evFn .sorted (.list (R.map rd)) = if okSort (R.map rd) then some (.list (sortD (R.map rd))) else none := rfl
  have k : okSort (R.map rd) = true := by
    unfold okSort
    have a : allAlike (R.map rd) = true := allAlike_toD (α := Rd) R
    have d : PyData.depthAll (R.map rd) ≤ 50 := Nat.le_trans (depthAll_toD (α := Rd) R) (by decide)
    have s : sortable (R.map rd) = true := by
      unfold sortable
      rw [Bool.or_eq_true]
      refine .inl (List.all_eq_true.mpr fun x hx => ?_)
      obtain ⟨r, _, rfl⟩ := List.mem_map.mp hx
      rfl
    rw [a, s, keydL_rds, decide_eq_true d]; rfl
  have s : sortD (R.map rd) = R.map rd := by
    have := sortD_toD (α := Rd) R
    rw [sortO_id h] at this
    exact this
  rw [e, k, s]; rfl
theorem law_all_roads {g : Pt} (hg : okGround g) : F__law_all_roads [pt g] = some (.list ((allRoads g).map rd)) := by
  have e : F__law_all_roads [pt g] = (denSs il__law_all_roads [.d (pt g), .un, .un, .un]).bind fun (o, _) => some (outOf o) := rfl
  have hg' := hg
  obtain ⟨h1, h2, h3, h4⟩ := hg'
  have s1 : small g.1 = true := decide_eq_true (by omega)
  obtain ⟨s', l, hs'⟩ := ar_loop2 hg (List.range g.1.toNat) [] (.ol []) (.inl rfl) (by rw [List.length_range]; simp; omega)
  rw [List.nil_append] at hs'
  have so := sorted_rds (allRoads g) (pw_of_rising _ (allRoads_ok hg).2.2)
  unfold allRoads at so
  rw [e]
  rcases hs' with rfl | rfl <;> simp only [il__law_all_roads, denSs, dS_asg, dS_asgO, dS_asgD, dS_asgT, dS_par, dS_app, dS_put, dS_ret, dS_ite, dS_exp, dS_setB, denT, denTs, dE_var, dE_glo, dE_int, dE_str, dE_bl, dE_non, dE_tup, dE_lst, dE_bin, dE_neg, dE_cmp, dE_chn, dE_and, dE_or, dE_nt, dE_ite, dE_call, dE_callB, dE_fn, dE_fn2, dE_max3, dE_isi, dE_idx, dE_cut, dE_step, dE_index, dE_oIdx, dE_oIn, dE_oGet, dE_oLen, dE_oCmp, dE_sortK, dE_lc, dE_lc2, dE_dc, denEs, denO, denIt, rdVar, isOwn, isOl, isOd, storeAll, bindT, wipeE, backE, plainSlot, walked, items, truth, asInt, outOf, List.getElem?_cons_zero, List.getElem?_cons_succ, List.set_cons_zero, List.set_cons_succ, Option.bind_some, Option.map_some, List.map_cons, List.map_nil, List.all_cons, List.all_nil, Bool.and_true, Bool.true_and, if_true, Bool.false_eq_true, if_false, dS_loop, ip0, s1, range0, l, so, allRoads]
theorem law_roads {n : Nat} {xs : List D} {g : Pt} (h : BagOk (n + 41) xs) (hg : okGround g) : ∃ R xs', F__law_roads xs [pt g] = some (rds R, xs') ∧ R.Sublist (allRoads g) ∧ BagOk n xs' := by
  have hA := allRoads_ok hg
  obtain ⟨r1, y1, e1, a1, b1, k1⟩ := law_take (n := n + 40) (many := 4) h (by omega) (by omega)
  obtain ⟨zs, ρ', l, sub, hI⟩ := lcGo_rel (d := rd) (g := rd) (f := lcF (.var 3) (.nm 3) (.one (.val (.cmp .lt (.callB "_law_take" F__law_take 0 (.cons (.int 4) .nil)) (.var 2)))) [3])
    (fun ys ρ => ∃ b, ρ = [.bo b, .d (pt g), .d (.int (1 + r1)), .un] ∧ BagOk (n + ys.length) b) (by
      rintro x ys ρ ⟨b, rfl, hb⟩
      rw [List.length_cons] at hb
      obtain ⟨r, b', e2, _, _, k2⟩ := law_take (n := n + ys.length) (many := 4) hb (by omega) (by omega)
      refine ⟨[.bo b', .d (pt g), .d (.int (1 + r1)), .un], ?_, b', rfl, k2⟩
      by_cases c : r < 1 + r1
      · left
        simp only [lcF, denSs, dS_asg, dS_asgO, dS_asgD, dS_asgT, dS_par, dS_app, dS_put, dS_ret, dS_ite, dS_exp, dS_setB, denT, denTs, dE_var, dE_glo, dE_int, dE_str, dE_bl, dE_non, dE_tup, dE_lst, dE_bin, dE_neg, dE_cmp, dE_chn, dE_and, dE_or, dE_nt, dE_ite, dE_call, dE_callB, dE_fn, dE_fn2, dE_max3, dE_isi, dE_idx, dE_cut, dE_step, dE_index, dE_oIdx, dE_oIn, dE_oGet, dE_oLen, dE_oCmp, dE_sortK, dE_lc, dE_lc2, dE_dc, denEs, denO, denIt, rdVar, isOwn, isOl, isOd, storeAll, bindT, wipeE, backE, plainSlot, walked, items, truth, asInt, outOf, List.getElem?_cons_zero, List.getElem?_cons_succ, List.set_cons_zero, List.set_cons_succ, Option.bind_some, Option.map_some, List.map_cons, List.map_nil, List.all_cons, List.all_nil, Bool.and_true, Bool.true_and, if_true, Bool.false_eq_true, if_false, e2, cmp_lt, c, decide_true]
      · right
        simp only [lcF, denSs, dS_asg, dS_asgO, dS_asgD, dS_asgT, dS_par, dS_app, dS_put, dS_ret, dS_ite, dS_exp, dS_setB, denT, denTs, dE_var, dE_glo, dE_int, dE_str, dE_bl, dE_non, dE_tup, dE_lst, dE_bin, dE_neg, dE_cmp, dE_chn, dE_and, dE_or, dE_nt, dE_ite, dE_call, dE_callB, dE_fn, dE_fn2, dE_max3, dE_isi, dE_idx, dE_cut, dE_step, dE_index, dE_oIdx, dE_oIn, dE_oGet, dE_oLen, dE_oCmp, dE_sortK, dE_lc, dE_lc2, dE_dc, denEs, denO, denIt, rdVar, isOwn, isOl, isOd, storeAll, bindT, wipeE, backE, plainSlot, walked, items, truth, asInt, outOf, List.getElem?_cons_zero, List.getElem?_cons_succ, List.set_cons_zero, List.set_cons_succ, Option.bind_some, Option.map_some, List.map_cons, List.map_nil, List.all_cons, List.all_nil, Bool.and_true, Bool.true_and, if_true, Bool.false_eq_true, if_false, e2, cmp_lt, c, decide_false]) (allRoads g) [.bo y1, .d (pt g), .d (.int (1 + r1)), .un] ⟨y1, rfl, k1.mono (by have := hA.1; omega)⟩
  obtain ⟨b, rfl, hb⟩ := hI
  refine ⟨zs, b, ?_, sub, hb.mono (by simp)⟩
  have L : lenOk (zs.map rd) = true := by
    unfold lenOk; rw [List.length_map]; have := sub.length_le; have := hA.1; exact decide_eq_true (by omega)
  have e : F__law_roads xs [pt g] = (denSs il__law_roads [.bo xs, .d (pt g), .un, .un]).bind fun (o, ρ) => (lentOf ρ[0]?).bind fun xs' => some (outOf o, xs') := rfl
  have tt : ∀ xs : List D, evFn .tuple (.list xs) = some (.tuple xs) := fun _ => rfl
  rw [e]
  simp only [il__law_roads, denSs, dS_asg, dS_asgO, dS_asgD, dS_asgT, dS_par, dS_app, dS_put, dS_ret, dS_ite, dS_exp, dS_setB, denT, denTs, dE_var, dE_glo, dE_int, dE_str, dE_bl, dE_non, dE_tup, dE_lst, dE_bin, dE_neg, dE_cmp, dE_chn, dE_and, dE_or, dE_nt, dE_ite, dE_call, dE_callB, dE_fn, dE_fn2, dE_max3, dE_isi, dE_idx, dE_cut, dE_step, dE_index, dE_oIdx, dE_oIn, dE_oGet, dE_oLen, dE_oCmp, dE_sortK, dE_lc, dE_lc2, dE_dc, denEs, denO, denIt, rdVar, isOwn, isOl, isOd, storeAll, bindT, wipeE, backE, plainSlot, walked, items, truth, asInt, outOf, List.getElem?_cons_zero, List.getElem?_cons_succ, List.set_cons_zero, List.set_cons_succ, Option.bind_some, Option.map_some, List.map_cons, List.map_nil, List.all_cons, List.all_nil, Bool.and_true, Bool.true_and, if_true, Bool.false_eq_true, if_false, plainSlot, e1, ev_add, law_all_roads hg, l, L, tt, lentOf]
end WM.Pr
set_option Elab.async false
set_option linter.all false
set_option maxRecDepth 100000
set_option maxHeartbeats 4000000
/-! WmG6: drawn rows. -/
namespace WM.Pr
open PySem PySem.W WM

def minI (a b : Int) : Int := if b < a then b else a
def maxI (a b : Int) : Int := if a < b then b else a
theorem ev_min2 (a b : Int) : evFn2 .min (.int a) (.int b) = some (.int (minI a b)) := by
  have := minL_toD (α := Int) (by decide) a [b]
  refine this.trans ?_
  show some (PyData.int (if decide (b < a) = true then b else a)) = _
  unfold minI; simp
theorem ev_max2 (a b : Int) : evFn2 .max (.int a) (.int b) = some (.int (maxI a b)) := by
  have := maxL_toD (α := Int) (by decide) a [b]
  refine this.trans ?_
  show some (PyData.int (if decide (a < b) = true then b else a)) = _
  unfold maxI; simp
theorem ev_max3 (a b c : Int) : maxL [.int a, .int b, .int c] = some (.int (maxI (maxI a b) c)) := by
  have := maxL_toD (α := Int) (by decide) a [b, c]
  refine this.trans ?_
  show some (PyData.int (if decide ((if decide (a < b) = true then b else a) < c) = true then c else (if decide (a < b) = true then b else a))) = _
  unfold maxI; simp
theorem idx_last {β : Type} (f : β → D) (ps : List β) (h : ps ≠ []) : evIdx (.list (ps.map f)) (.int (-1)) = some (f (ps.getLast h)) := by
  have s : small (-1) = true := by decide
  rw [idx_L, s, if_pos rfl]
  unfold ixAt
  have l : 0 < ps.length := List.length_pos_iff.mpr h
  rw [if_neg (by decide), List.length_map, if_pos (by omega), List.getElem?_map]
  have e : ((-1 : Int) + (ps.length : Nat)).toNat = ps.length - 1 := by omega
  rw [e, ← List.getLast?_eq_getElem?, List.getLast?_eq_some_getLast h]; rfl
theorem idx_lastT {β : Type} (f : β → D) (ps : List β) (h : ps ≠ []) : evIdx (.tuple (ps.map f)) (.int (-1)) = some (f (ps.getLast h)) := idx_last f ps h
theorem ev_idx3 (a b : Pt) (k : Int) (h0 : 0 ≤ k) (h3 : k < 3) : evIdx (.list [pt a, pt a, pt b]) (.int k) = some (pt (if k < 2 then a else b)) := by
  have : k = 0 ∨ k = 1 ∨ k = 2 := by omega
  rcases this with rfl | rfl | rfl <;> rfl
theorem row_turn {n : Nat} {b : List D} {g : Pt} {w : Int} {ps : List Pt} (h : BagOk (n + 5) b) (hg : okGround g) (hw : 0 ≤ w ∧ w < 3) (hp : ps ≠ []) (hs : ∀ p ∈ ps, p ∈ spots g) (hl : ps.length ≤ 100) (M i : D) :
    ∃ p b', lpF (.nm 5) b__law_row_1 [5, 6, 7] i [.bo b, .d (pt g), .d M, .d (.int w), .ol (ps.map pt), .un, .un, .un] = some (.nx, [.bo b', .d (pt g), .d M, .d (.int w), .ol ((ps ++ [p]).map pt), .un, .un, .un]) ∧ p ∈ spots g ∧ BagOk n b' := by
  have hg' := hg
  obtain ⟨g1, g2, g3, g4⟩ := hg'
  obtain ⟨r1, b1, e1, a1, c1, k1⟩ := law_take (n := n + 4) (many := 3) h (by omega) (by omega)
  obtain ⟨r2, b2, e2, a2, c2, k2⟩ := law_take (n := n + 3) (many := 3) k1 (by omega) (by omega)
  obtain ⟨p3, b3, e3, m3, k3⟩ := law_point (n := n + 1) k2 hg
  obtain ⟨r4, b4, e4, a4, c4, k4⟩ := law_take (n := n) (many := 9) k3 (by omega) (by omega)
  have hk : 0 ≤ maxI (maxI w (r4 - 6)) 0 ∧ maxI (maxI w (r4 - 6)) 0 < 3 := by
    unfold maxI; repeat' split <;> omega
  have il := idx_last pt ps hp
  generalize hq : ps.getLast hp = q at il
  have L : lenOk (ps.map pt) = true := by unfold lenOk; rw [List.length_map]; exact decide_eq_true (by omega)
  have hx : 0 ≤ maxI 0 (minI (g.1 - 1) (q.1 + r1 - 1)) ∧ maxI 0 (minI (g.1 - 1) (q.1 + r1 - 1)) < g.1 := by
    unfold maxI minI; repeat' split <;> omega
  have hy : 0 ≤ maxI 0 (minI (g.2 - 1) (q.2 + r2 - 1)) ∧ maxI 0 (minI (g.2 - 1) (q.2 + r2 - 1)) < g.2 := by
    unfold maxI minI; repeat' split <;> omega
  have ix := ev_idx3 (maxI 0 (minI (g.1 - 1) (q.1 + r1 - 1)), maxI 0 (minI (g.2 - 1) (q.2 + r2 - 1))) p3 _ hk.1 hk.2
  refine ⟨if maxI (maxI w (r4 - 6)) 0 < 2 then (maxI 0 (minI (g.1 - 1) (q.1 + r1 - 1)), maxI 0 (minI (g.2 - 1) (q.2 + r2 - 1))) else p3, b4, ?_, ?_, k4⟩
  · rw [lpF_eq, List.map_append, List.map_cons, List.map_nil]
    simp only [b__law_row_1, denSs, dS_asg, dS_asgO, dS_asgD, dS_asgT, dS_par, dS_app, dS_put, dS_ret, dS_ite, dS_exp, dS_setB, denT, denTs, dE_var, dE_glo, dE_int, dE_str, dE_bl, dE_non, dE_tup, dE_lst, dE_bin, dE_neg, dE_cmp, dE_chn, dE_and, dE_or, dE_nt, dE_ite, dE_call, dE_callB, dE_fn, dE_fn2, dE_max3, dE_isi, dE_idx, dE_cut, dE_step, dE_index, dE_oIdx, dE_oIn, dE_oGet, dE_oLen, dE_oCmp, dE_sortK, dE_lc, dE_lc2, dE_dc, denEs, denO, denIt, rdVar, isOwn, isOl, isOd, storeAll, bindT, wipeE, backE, plainSlot, walked, items, truth, asInt, outOf, List.getElem?_cons_zero, List.getElem?_cons_succ, List.set_cons_zero, List.set_cons_succ, Option.bind_some, Option.map_some, List.map_cons, List.map_nil, List.all_cons, List.all_nil, Bool.and_true, Bool.true_and, if_true, Bool.false_eq_true, if_false, il, ip0, ip1, ev_sub, ev_add, e1, e2, e3, e4, ev_min2, ev_max2, ev_max3, ix, L]
  · split
    · exact spots_mem.mpr ⟨hx.1, hx.2, hy.1, hy.2⟩
    · exact m3
theorem law_row {n : Nat} {xs : List D} {g : Pt} {most : Int} (h : BagOk (n + 60) xs) (hg : okGround g) (h1 : 1 ≤ most) (h2 : most ≤ 10) : ∃ ps xs', F__law_row xs [pt g, .int most] = some (pts ps, xs') ∧ okRow g ps ∧ ps.length ≤ most ∧ BagOk n xs' := by
  obtain ⟨w, b1, e1, a1, c1, k1⟩ := law_take (n := n + 59) (many := 3) h (by omega) (by omega)
  obtain ⟨p, b2, e2, m2, k2⟩ := law_point (n := n + 57) k1 hg
  obtain ⟨r, b3, e3, a3, c3, k3⟩ := law_take (n := n + 56) (many := most) k2 (by omega) (by omega)
  have sr : small r = true := decide_eq_true (by omega)
  obtain ⟨ρ', l, b4, ps, rfl, hp, hs, hl, hb⟩ := loop_rel (f := lpF (.nm 5) b__law_row_1 [5, 6, 7]) (d := fun (i : Nat) => PyData.int i)
    (fun ys ρ => ∃ b ps, ρ = [.bo b, .d (pt g), .d (.int most), .d (.int w), .ol (ps.map pt), .un, .un, .un] ∧ ps ≠ [] ∧ (∀ p ∈ ps, p ∈ spots g) ∧ ps.length + ys.length = 1 + r.toNat ∧ BagOk (n + 5 * ys.length) b) (by
      rintro x ys ρ ⟨b, ps, rfl, hp, hs, hl, hb⟩
      rw [List.length_cons] at hb hl
      obtain ⟨q, b', e, hq, hb'⟩ := row_turn (n := n + 5 * ys.length) (w := w) (hb.mono (by omega)) hg ⟨a1, c1⟩ hp hs (by omega) (.int most) (.int x)
      refine ⟨_, e, b', ps ++ [q], rfl, by simp, ?_, by rw [List.length_append]; simp; omega, hb'⟩
      intro z hz
      rcases List.mem_append.mp hz with hz | hz
      · exact hs z hz
      · rw [List.mem_singleton.mp hz]; exact hq) (List.range r.toNat) [.bo b3, .d (pt g), .d (.int most), .d (.int w), .ol ([p].map pt), .un, .un, .un]
    ⟨b3, [p], rfl, by simp, fun z hz => by rw [List.mem_singleton.mp hz]; exact m2, by rw [List.length_range]; rfl, k3.mono (by rw [List.length_range]; omega)⟩
  rw [List.length_nil] at hl hb
  refine ⟨ps, b4, ?_, ⟨by omega, by omega, fun z hz => spots_mem.mp (hs z hz)⟩, by omega, hb.mono (by omega)⟩
  have e : F__law_row xs [pt g, .int most] = (denSs il__law_row [.bo xs, .d (pt g), .d (.int most), .un, .un, .un, .un, .un]).bind fun (o, ρ) => (lentOf ρ[0]?).bind fun xs' => some (outOf o, xs') := rfl
  have tt : ∀ xs : List D, evFn .tuple (.list xs) = some (.tuple xs) := fun _ => rfl
  rw [List.map_cons, List.map_nil] at l
  rw [e]
  simp only [il__law_row, denSs, dS_asg, dS_asgO, dS_asgD, dS_asgT, dS_par, dS_app, dS_put, dS_ret, dS_ite, dS_exp, dS_setB, denT, denTs, dE_var, dE_glo, dE_int, dE_str, dE_bl, dE_non, dE_tup, dE_lst, dE_bin, dE_neg, dE_cmp, dE_chn, dE_and, dE_or, dE_nt, dE_ite, dE_call, dE_callB, dE_fn, dE_fn2, dE_max3, dE_isi, dE_idx, dE_cut, dE_step, dE_index, dE_oIdx, dE_oIn, dE_oGet, dE_oLen, dE_oCmp, dE_sortK, dE_lc, dE_lc2, dE_dc, denEs, denO, denIt, rdVar, isOwn, isOl, isOd, storeAll, bindT, wipeE, backE, plainSlot, walked, items, truth, asInt, outOf, List.getElem?_cons_zero, List.getElem?_cons_succ, List.set_cons_zero, List.set_cons_succ, Option.bind_some, Option.map_some, List.map_cons, List.map_nil, List.all_cons, List.all_nil, Bool.and_true, Bool.true_and, if_true, Bool.false_eq_true, if_false, dS_loop, e1, e2, e3, sr, range0, l, tt, lentOf]
end WM.Pr
set_option Elab.async false
set_option linter.all false
set_option maxRecDepth 100000
set_option maxHeartbeats 4000000
/-! WmG7: best_way tells the least of all that can be reached. -/
namespace WM.Pr
open PySem PySem.W WM

abbrev V3 := T3 Int Int (Tup Pt)
abbrev vD (v : V3) : D := .tuple [.int v.a, .int v.b, pts v.c.items]
theorem vD_toD (v : V3) : Datum.toD v = vD v := rfl
def ext (v : V3) (s : Pt × Int) (h : Pt) : V3 := ⟨v.a + s.2, v.b + dist s.1 h, ⟨v.c.items ++ [s.1]⟩⟩
/-- what can be reached: the row turned about, where it ends, what it costs and by which way -/
inductive Reach (g : Pt) (R : List Rd) : List Pt → Pt → V3 → Prop
  | one {h p : Pt} : p ∈ spots g → Reach g R [h] p ⟨0, dist p h, ⟨[p]⟩⟩
  | step {row : List Pt} {h p : Pt} {v : V3} {s : Pt × Int} : Reach g R row p v → s ∈ stepsM g R p → Reach g R (h :: row) s.1 (ext v s h)
theorem Reach.spot {g p : Pt} {R : List Rd} {row : List Pt} {v : V3} (h : Reach g R row p v) : p ∈ spots g := by
  cases h with
  | one h => exact h
  | step _ h => exact steps_mem h
theorem Reach.len {g p : Pt} {R : List Rd} {row : List Pt} {v : V3} (h : Reach g R row p v) : v.c.items.length = row.length := by
  induction h with
  | one h => rfl
  | step _ h ih => show (_ ++ [_]).length = _; rw [List.length_append, ih]; rfl
/-- a dict holds the least of each set -/
structure Repr (kvs : List (Pt × V3)) (S : Pt → V3 → Prop) : Prop where
  nd : (kvs.map (·.1)).Nodup
  yes : ∀ o v, alook kvs o = some v → Least (S o) v
  no : ∀ o, alook kvs o = none → ∀ v, ¬ S o v
def upd (kvs : List (Pt × V3)) (q : Pt × V3) : List (Pt × V3) := match alook kvs q.1 with
  | none => aput kvs q.1 q.2
  | some c => if DatumOrd.lt q.2 c then aput kvs q.1 q.2 else kvs
theorem Repr.iff {kvs : List (Pt × V3)} {S T : Pt → V3 → Prop} (h : Repr kvs S) (e : ∀ o v, S o v ↔ T o v) : Repr kvs T :=
  ⟨h.nd, fun o v hv => (h.yes o v hv).iff (e o), fun o hn v hv => h.no o hn v ((e o v).mpr hv)⟩
theorem Repr.upd {kvs : List (Pt × V3)} {S : Pt → V3 → Prop} (h : Repr kvs S) (q : Pt × V3) : Repr (upd kvs q) (fun o v => S o v ∨ (o, v) = q) := by
  obtain ⟨o, f⟩ := q
  have other : ∀ o' v, o ≠ o' → alook kvs o' = some v → Least (fun v => S o' v ∨ (o', v) = (o, f)) v := fun o' v ne hv => (h.yes o' v hv).iff fun w => ⟨.inl, fun z => z.elim id fun z => absurd (Prod.mk.inj z).1.symm ne⟩
  have otherN : ∀ o', o ≠ o' → alook kvs o' = none → ∀ v, ¬ (S o' v ∨ (o', v) = (o, f)) := fun o' ne hn v z => z.elim (h.no o' hn v) fun z => ne (Prod.mk.inj z).1.symm
  have putR : (∀ y, S o y → DatumOrd.lt y f = false) → Repr (aput kvs o f) (fun o' v => S o' v ∨ (o', v) = (o, f)) := fun hy => by
    refine ⟨aput_nodup h.nd o f, fun o' v hv => ?_, fun o' hn v => ?_⟩
    · rw [alook_put] at hv
      by_cases e : o = o'
      · subst e
        rw [if_pos rfl] at hv
        cases hv
        exact ⟨.inr rfl, fun y z => z.elim (hy y) fun z => by rw [(Prod.mk.inj z).2]; exact ol_irr _⟩
      · rw [if_neg e] at hv
        exact other o' v e hv
    · rw [alook_put] at hn
      by_cases e : o = o'
      · rw [if_pos e] at hn; cases hn
      · rw [if_neg e] at hn
        exact otherN o' e hn v
  unfold Pr.upd
  show Repr (match alook kvs o with | none => aput kvs o f | some c => if DatumOrd.lt f c then aput kvs o f else kvs) _
  cases e : alook kvs o with
  | none => exact putR fun y hy => absurd hy (h.no o e y)
  | some c =>
    have L := h.yes o c e
    show Repr (if DatumOrd.lt f c then aput kvs o f else kvs) _
    by_cases hl : DatumOrd.lt f c = true
    · rw [if_pos hl]
      refine putR fun y hy => ?_
      cases z : DatumOrd.lt y f with
      | false => rfl
      | true => exact absurd ((L.2 y hy).symm.trans (ol_tr z hl)) Bool.false_ne_true
    · rw [if_neg hl]
      refine ⟨h.nd, fun o' v hv => ?_, fun o' hn v => ?_⟩
      · by_cases e2 : o = o'
        · subst e2
          rw [e] at hv
          cases hv
          exact ⟨.inl L.1, fun y z => z.elim (L.2 y) fun z => by rw [(Prod.mk.inj z).2]; exact Bool.eq_false_iff.mpr hl⟩
        · exact other o' v e2 hv
      · by_cases e2 : o = o'
        · subst e2; rw [e] at hn; cases hn
        · exact otherN o' e2 hn v
theorem Repr.fold : ∀ (qs : List (Pt × V3)) {kvs : List (Pt × V3)} {S : Pt → V3 → Prop}, Repr kvs S → Repr (qs.foldl Pr.upd kvs) (fun o v => S o v ∨ (o, v) ∈ qs)
  | [], _, _, h => h.iff fun o v => ⟨.inl, fun z => z.elim id fun z => absurd z List.not_mem_nil⟩
  | q :: qs, _, _, h => (Repr.fold qs (h.upd q)).iff fun o v => by rw [List.mem_cons, or_assoc]
theorem upd_len (kvs : List (Pt × V3)) (q : Pt × V3) : (upd kvs q).length ≤ kvs.length + 1 := by
  unfold upd
  split
  · exact aput_len _ _ _
  · split
    · exact aput_len _ _ _
    · omega
/-- what is told of one point's steps -/
def itemsOf (g : Pt) (R : List Rd) (h : Pt) (q : Pt × V3) : List (Pt × V3) := (stepsM g R q.1).map fun s => (s.1, ext q.2 s h)
def nextF (g : Pt) (R : List Rd) (F : List (Pt × V3)) (h : Pt) : List (Pt × V3) := (F.flatMap (itemsOf g R h)).foldl upd []
theorem listLt_snoc {α : Type} [DecidableEq α] [DatumOrd α] (o : α) : ∀ xs ys : List α, xs.length = ys.length → listLt (xs ++ [o]) (ys ++ [o]) = listLt xs ys
  | [], [], _ => by show (if o = o then listLt [] [] else DatumOrd.lt o o) = _; rw [if_pos rfl]
  | x :: xs, y :: ys, h => by
    show (if x = y then listLt (xs ++ [o]) (ys ++ [o]) else DatumOrd.lt x y) = (if x = y then listLt xs ys else DatumOrd.lt x y)
    rw [listLt_snoc o xs ys (by simpa using h)]
theorem lt_V3 (u v : V3) : DatumOrd.lt u v = if u.a = v.a then (if u.b = v.b then listLt u.c.items v.c.items else decide (u.b < v.b)) else decide (u.a < v.a) := rfl
theorem ext_lt (u v : V3) (s : Pt × Int) (h : Pt) (hl : u.c.items.length = v.c.items.length) : DatumOrd.lt (ext u s h) (ext v s h) = DatumOrd.lt u v := by
  rw [lt_V3, lt_V3]
  unfold ext
  simp only [listLt_snoc s.1 _ _ hl, Int.add_left_inj, Int.add_lt_add_iff_right]
theorem next_repr {g : Pt} {R : List Rd} {F : List (Pt × V3)} {row : List Pt} (h : Pt) (hF : Repr F (Reach g R row)) (hr : row ≠ []) : Repr (nextF g R F h) (Reach g R (h :: row)) := by
  have e0 : Repr [] (fun (_ : Pt) (_ : V3) => False) := ⟨List.nodup_nil, fun o v h => by simp [alook] at h, fun _ _ _ h => h⟩
  have e1 := Repr.fold (F.flatMap (itemsOf g R h)) e0
  have mem : ∀ o v, (o, v) ∈ F.flatMap (itemsOf g R h) ↔ ∃ p u s, alook F p = some u ∧ s ∈ stepsM g R p ∧ s.1 = o ∧ ext u s h = v := by
    intro o v
    rw [List.mem_flatMap]
    constructor
    · rintro ⟨⟨p, u⟩, hq, hm⟩
      obtain ⟨s, hs, e⟩ := List.mem_map.mp hm
      exact ⟨p, u, s, mem_alook hF.nd hq, hs, (Prod.mk.inj e).1, (Prod.mk.inj e).2⟩
    · rintro ⟨p, u, s, ha, hs, rfl, rfl⟩
      exact ⟨(p, u), alook_mem ha, List.mem_map.mpr ⟨s, hs, rfl⟩⟩
  have sound : ∀ o v, (o, v) ∈ F.flatMap (itemsOf g R h) → Reach g R (h :: row) o v := by
    intro o v hm
    obtain ⟨p, u, s, ha, hs, rfl, rfl⟩ := (mem o v).mp hm
    exact .step (hF.yes p u ha).1 hs
  have below : ∀ o v, Reach g R (h :: row) o v → ∃ w, (o, w) ∈ F.flatMap (itemsOf g R h) ∧ DatumOrd.lt v w = false := by
    intro o v hv
    cases hv with
    | one _ => exact absurd rfl hr
    | @step _ _ p u s hu hs =>
      cases ha : alook F p with
      | none => exact absurd hu (hF.no p ha u)
      | some w =>
        have L := hF.yes p w ha
        refine ⟨ext w s h, (mem _ _).mpr ⟨p, w, s, ha, hs, rfl, rfl⟩, ?_⟩
        rw [ext_lt u w s h (by rw [hu.len, L.1.len])]
        exact L.2 u hu
  refine ⟨e1.nd, fun o v hv => ?_, fun o hn v hv => ?_⟩
  · have L := e1.yes o v hv
    have hm : (o, v) ∈ F.flatMap (itemsOf g R h) := L.1.resolve_left id
    refine ⟨sound o v hm, fun y hy => ?_⟩
    obtain ⟨w, hw, hl⟩ := below o y hy
    exact ol_ntr hl (L.2 w (.inr hw))
  · obtain ⟨w, hw, _⟩ := below o v hv
    exact e1.no o hn w (.inr hw)
/-! ### the program's dict -/
theorem fits_pt (kvs : List (Pt × V3)) (p : Pt) : fitsK (kvD vD kvs) (pt p) = true := by
  unfold fitsK
  have h1 : keyd (pt p) = true := rfl
  have h2 : decide ((pt p).depth ≤ 8) = true := decide_eq_true (Nat.le_trans (Datum.depth_le (α := Pt) p) (by decide))
  have h3 : (kvD vD kvs).all (fun q => isTup q.1 == isTup (pt p)) = true := by
    rw [List.all_eq_true]
    intro q hq
    obtain ⟨r, _, rfl⟩ := List.mem_map.mp hq
    rfl
  rw [h1, h2, h3]; rfl
theorem dget_pt (kvs : List (Pt × V3)) (p : Pt) : dget (kvD vD kvs) (pt p) = (alook kvs p).map vD := dget_kvD (α := Pt) vD kvs p
theorem dput_pt (kvs : List (Pt × V3)) (p : Pt) (v : V3) : dput (kvD vD kvs) (pt p) (.tuple [.int v.a, .int v.b, pts v.c.items]) = kvD vD (aput kvs p v) := dput_kvD (α := Pt) vD kvs p v
theorem idx_dict (kvs : List (Pt × V3)) (p : Pt) : evIdx (.dict (kvD vD kvs)) (pt p) = (alook kvs p).map vD := by
  have e : evIdx (.dict (kvD vD kvs)) (pt p) = if fitsK (kvD vD kvs) (pt p) then dget (kvD vD kvs) (pt p) else none := rfl
  rw [e, fits_pt, if_pos rfl, dget_pt]
theorem in_dict (kvs : List (Pt × V3)) (p : Pt) : evIn (pt p) (.dict (kvD vD kvs)) = some (alook kvs p).isSome := by
  have e : evIn (pt p) (.dict (kvD vD kvs)) = if fitsK (kvD vD kvs) (pt p) then some (dget (kvD vD kvs) (pt p)).isSome else none := rfl
  rw [e, fits_pt, if_pos rfl, dget_pt, Option.isSome_map]
theorem lt_vD (u v : V3) : evCmp .lt (vD u) (vD v) = some (DatumOrd.lt u v) := ev_ltD (α := V3) (by decide) u v
theorem add_way (ps : List Pt) (o : Pt) (h : ps.length ≤ 1000) : evBin .add (pts ps) (.tuple [pt o]) = some (pts (ps ++ [o])) := by
  show (if (ps.map pt).length + [pt o].length ≤ 1000000 then some (PyData.tuple (ps.map pt ++ [pt o])) else none) = _
  rw [if_pos (by rw [List.length_map]; show ps.length + 1 ≤ _; omega), show pts (ps ++ [o]) = .tuple ((ps ++ [o]).map pt) from rfl, List.map_append]; rfl
theorem bw_turn1 (G RD RW FD : D) (h p : Pt) (kvs : List (Pt × V3)) (v : V3) (s : Pt × Int) (hl : kvs.length ≤ 1000) (hw : v.c.items.length ≤ 1000) :
    lpF (.tp [10, 11]) b_best_way_1 [10, 11, 12] (st2 s) [.d G, .d RD, .d RW, .d FD, .d (pt h), .od (kvD vD kvs), .d (pt p), .d (.int v.a), .d (.int v.b), .d (pts v.c.items), .un, .un, .un] =
      some (.nx, [.d G, .d RD, .d RW, .d FD, .d (pt h), .od (kvD vD (upd kvs (s.1, ext v s h))), .d (pt p), .d (.int v.a), .d (.int v.b), .d (pts v.c.items), .un, .un, .un]) := by
  have L : (fitsK (kvD vD kvs) (pt s.1) && decide ((kvD vD kvs).length ≤ 100000)) = true := by
    rw [fits_pt]; unfold kvD; rw [List.length_map]; exact decide_eq_true (by omega)
  have aw := add_way v.c.items s.1 hw
  have pf := dput_pt kvs s.1 (ext v s h)
  have lt := fun c => lt_vD (ext v s h) c
  unfold ext at lt pf
  rw [lpF_eq]
  unfold upd ext
  cases e : alook kvs s.1 with
  | none => simp only [b_best_way_1, denSs, dS_asg, dS_asgO, dS_asgD, dS_asgT, dS_par, dS_app, dS_put, dS_ret, dS_ite, dS_exp, dS_setB, denT, denTs, dE_var, dE_glo, dE_int, dE_str, dE_bl, dE_non, dE_tup, dE_lst, dE_bin, dE_neg, dE_cmp, dE_chn, dE_and, dE_or, dE_nt, dE_ite, dE_call, dE_callB, dE_fn, dE_fn2, dE_max3, dE_isi, dE_idx, dE_cut, dE_step, dE_index, dE_oIdx, dE_oIn, dE_oGet, dE_oLen, dE_oCmp, dE_sortK, dE_lc, dE_lc2, dE_dc, denEs, denO, denIt, rdVar, isOwn, isOl, isOd, storeAll, bindT, wipeE, backE, plainSlot, walked, items, truth, asInt, outOf, List.getElem?_cons_zero, List.getElem?_cons_succ, List.set_cons_zero, List.set_cons_succ, Option.bind_some, Option.map_some, List.map_cons, List.map_nil, List.all_cons, List.all_nil, Bool.and_true, Bool.true_and, if_true, Bool.false_eq_true, if_false, far_eq, ev_add, aw, in_dict, e, Option.isSome_none, Bool.not_false, L, pf]
  | some c =>
    cases hc : DatumOrd.lt (T3.mk (v.a + s.2) (v.b + dist s.1 h) (Tup.mk (v.c.items ++ [s.1]))) c with
    | true => simp only [b_best_way_1, denSs, dS_asg, dS_asgO, dS_asgD, dS_asgT, dS_par, dS_app, dS_put, dS_ret, dS_ite, dS_exp, dS_setB, denT, denTs, dE_var, dE_glo, dE_int, dE_str, dE_bl, dE_non, dE_tup, dE_lst, dE_bin, dE_neg, dE_cmp, dE_chn, dE_and, dE_or, dE_nt, dE_ite, dE_call, dE_callB, dE_fn, dE_fn2, dE_max3, dE_isi, dE_idx, dE_cut, dE_step, dE_index, dE_oIdx, dE_oIn, dE_oGet, dE_oLen, dE_oCmp, dE_sortK, dE_lc, dE_lc2, dE_dc, denEs, denO, denIt, rdVar, isOwn, isOl, isOd, storeAll, bindT, wipeE, backE, plainSlot, walked, items, truth, asInt, outOf, List.getElem?_cons_zero, List.getElem?_cons_succ, List.set_cons_zero, List.set_cons_succ, Option.bind_some, Option.map_some, List.map_cons, List.map_nil, List.all_cons, List.all_nil, Bool.and_true, Bool.true_and, if_true, Bool.false_eq_true, if_false, far_eq, ev_add, aw, in_dict, idx_dict, e, Option.isSome_some, Bool.not_true, L, pf, lt, hc]
    | false => simp only [b_best_way_1, denSs, dS_asg, dS_asgO, dS_asgD, dS_asgT, dS_par, dS_app, dS_put, dS_ret, dS_ite, dS_exp, dS_setB, denT, denTs, dE_var, dE_glo, dE_int, dE_str, dE_bl, dE_non, dE_tup, dE_lst, dE_bin, dE_neg, dE_cmp, dE_chn, dE_and, dE_or, dE_nt, dE_ite, dE_call, dE_callB, dE_fn, dE_fn2, dE_max3, dE_isi, dE_idx, dE_cut, dE_step, dE_index, dE_oIdx, dE_oIn, dE_oGet, dE_oLen, dE_oCmp, dE_sortK, dE_lc, dE_lc2, dE_dc, denEs, denO, denIt, rdVar, isOwn, isOl, isOd, storeAll, bindT, wipeE, backE, plainSlot, walked, items, truth, asInt, outOf, List.getElem?_cons_zero, List.getElem?_cons_succ, List.set_cons_zero, List.set_cons_succ, Option.bind_some, Option.map_some, List.map_cons, List.map_nil, List.all_cons, List.all_nil, Bool.and_true, Bool.true_and, if_true, Bool.false_eq_true, if_false, far_eq, ev_add, aw, in_dict, idx_dict, e, Option.isSome_some, Bool.not_true, L, pf, lt, hc]
theorem bw_loop1 (G RD RW FD : D) (h p : Pt) (v : V3) (hw : v.c.items.length ≤ 1000) (ss : List (Pt × Int)) (kvs : List (Pt × V3)) (hl : kvs.length + ss.length ≤ 1000) :
    loopGo (lpF (.tp [10, 11]) b_best_way_1 [10, 11, 12]) (ss.map st2) [.d G, .d RD, .d RW, .d FD, .d (pt h), .od (kvD vD kvs), .d (pt p), .d (.int v.a), .d (.int v.b), .d (pts v.c.items), .un, .un, .un] =
      some (.nx, [.d G, .d RD, .d RW, .d FD, .d (pt h), .od (kvD vD ((ss.map fun s => (s.1, ext v s h)).foldl upd kvs)), .d (pt p), .d (.int v.a), .d (.int v.b), .d (pts v.c.items), .un, .un, .un]) := by
  have := loop_fold (f := lpF (.tp [10, 11]) b_best_way_1 [10, 11, 12]) (d := st2) (E := fun kvs => [.d G, .d RD, .d RW, .d FD, .d (pt h), .od (kvD vD kvs), .d (pt p), .d (.int v.a), .d (.int v.b), .d (pts v.c.items), .un, .un, .un]) (s := fun kvs s => upd kvs (s.1, ext v s h)) (fun kvs ss => kvs.length + ss.length ≤ 1000) (fun kvs s ss hI => by
    rw [List.length_cons] at hI
    exact ⟨bw_turn1 G RD RW FD h p kvs v s (by omega) hw, by have := upd_len kvs (s.1, ext v s h); omega⟩) ss kvs hl
  rw [this.1, List.foldl_map]
theorem fold_upd_len : ∀ (qs kvs : List (Pt × V3)), (qs.foldl upd kvs).length ≤ kvs.length + qs.length
  | [], _ => Nat.le_refl _
  | q :: qs, kvs => by
    rw [List.foldl_cons, List.length_cons]
    have := fold_upd_len qs (upd kvs q)
    have := upd_len kvs q
    omega
theorem items_len {g : Pt} (hg : okGround g) (R : List Rd) (h : Pt) (q : Pt × V3) : (itemsOf g R h q).length ≤ 25 := by
  unfold itemsOf
  rw [List.length_map]
  exact Nat.le_trans (steps_len g q.1 R) (spots_25 hg)
theorem bw_turn2 {g : Pt} (hg : okGround g) (R : List Rd) (RW : D) (h : Pt) (F kvs : List (Pt × V3)) (q : Pt × V3) (hq : alook F q.1 = some q.2) (hl : kvs.length ≤ 900) (hw : q.2.c.items.length ≤ 1000) :
    lpF (.nm 6) b_best_way_2 [6, 7, 8, 9, 10, 11, 12] (pt q.1) [.d (pt g), .d (rds R), .d RW, .d (.dict (kvD vD F)), .d (pt h), .od (kvD vD kvs), .un, .un, .un, .un, .un, .un, .un] =
      some (.nx, [.d (pt g), .d (rds R), .d RW, .d (.dict (kvD vD F)), .d (pt h), .od (kvD vD ((itemsOf g R h q).foldl upd kvs)), .un, .un, .un, .un, .un, .un, .un]) := by
  have l := bw_loop1 (pt g) (rds R) RW (.dict (kvD vD F)) h q.1 q.2 hw (stepsM g R q.1) kvs (by have := steps_len g q.1 R; have := spots_25 hg; omega)
  have ix : evIdx (.dict (kvD vD F)) (pt q.1) = some (vD q.2) := by rw [idx_dict, hq]; rfl
  rw [lpF_eq]
  unfold itemsOf
  simp only [b_best_way_2, denSs, dS_asg, dS_asgO, dS_asgD, dS_asgT, dS_par, dS_app, dS_put, dS_ret, dS_ite, dS_exp, dS_setB, denT, denTs, dE_var, dE_glo, dE_int, dE_str, dE_bl, dE_non, dE_tup, dE_lst, dE_bin, dE_neg, dE_cmp, dE_chn, dE_and, dE_or, dE_nt, dE_ite, dE_call, dE_callB, dE_fn, dE_fn2, dE_max3, dE_isi, dE_idx, dE_cut, dE_step, dE_index, dE_oIdx, dE_oIn, dE_oGet, dE_oLen, dE_oCmp, dE_sortK, dE_lc, dE_lc2, dE_dc, denEs, denO, denIt, rdVar, isOwn, isOl, isOd, storeAll, bindT, wipeE, backE, plainSlot, walked, items, truth, asInt, outOf, List.getElem?_cons_zero, List.getElem?_cons_succ, List.set_cons_zero, List.set_cons_succ, Option.bind_some, Option.map_some, List.map_cons, List.map_nil, List.all_cons, List.all_nil, Bool.and_true, Bool.true_and, if_true, Bool.false_eq_true, if_false, dS_loop, ix, steps_eq hg, l]
theorem bw_loop2 {g : Pt} (hg : okGround g) (R : List Rd) (RW : D) (h : Pt) (F : List (Pt × V3)) (hn : (F.map (·.1)).Nodup) (hw : ∀ q ∈ F, q.2.c.items.length ≤ 1000) (hl : F.length ≤ 30) :
    loopGo (lpF (.nm 6) b_best_way_2 [6, 7, 8, 9, 10, 11, 12]) (F.map fun q => pt q.1) [.d (pt g), .d (rds R), .d RW, .d (.dict (kvD vD F)), .d (pt h), .od (kvD vD ([] : List (Pt × V3))), .un, .un, .un, .un, .un, .un, .un] =
      some (.nx, [.d (pt g), .d (rds R), .d RW, .d (.dict (kvD vD F)), .d (pt h), .od (kvD vD (nextF g R F h)), .un, .un, .un, .un, .un, .un, .un]) := by
  have := loop_fold (f := lpF (.nm 6) b_best_way_2 [6, 7, 8, 9, 10, 11, 12]) (d := fun q : Pt × V3 => pt q.1) (E := fun kvs => [.d (pt g), .d (rds R), .d RW, .d (.dict (kvD vD F)), .d (pt h), .od (kvD vD kvs), .un, .un, .un, .un, .un, .un, .un]) (s := fun kvs q => (itemsOf g R h q).foldl upd kvs) (fun kvs qs => kvs.length + 25 * qs.length ≤ 900 ∧ ∀ q ∈ qs, q ∈ F) (fun kvs q qs hI => by
    rw [List.length_cons] at hI
    have hq := hI.2 q List.mem_cons_self
    have := items_len hg R h q
    have := fold_upd_len (itemsOf g R h q) kvs
    exact ⟨bw_turn2 hg R RW h F kvs q (mem_alook hn hq) (by omega) (hw q hq), by omega, fun z hz => hI.2 z (List.mem_cons_of_mem _ hz)⟩) F [] ⟨by simp; omega, fun _ h => h⟩
  rw [this.1]
  unfold nextF
  rw [List.foldl_flatMap]
theorem spots_fin : ∀ a ∈ [(1 : Int), 2, 3, 4, 5], ∀ b ∈ [(1 : Int), 2, 3, 4, 5], rising (spots (a, b)) = true := by decide +kernel
theorem spots_pw {g : Pt} (hg : okGround g) : (spots g).Pairwise fun a b => DatumOrd.lt a b = true := by
  obtain ⟨h1, h2, h3, h4⟩ := hg
  exact pw_of_rising _ (spots_fin g.1 (mem15 h1 h2) g.2 (mem15 h3 h4))
theorem nodup_of_pw {α : Type} [DecidableEq α] [DatumOrd α] {xs : List α} (h : xs.Pairwise fun a b => DatumOrd.lt a b = true) : xs.Nodup := h.imp fun hab e => by
  subst e; rw [ol_irr] at hab; cases hab
theorem spots_nodup {g : Pt} (hg : okGround g) : (spots g).Nodup := nodup_of_pw (spots_pw hg)
theorem nodup_len {α : Type} [DecidableEq α] : ∀ (xs ys : List α), xs.Nodup → (∀ x ∈ xs, x ∈ ys) → xs.length ≤ ys.length
  | [], _, _, _ => Nat.zero_le _
  | x :: xs, ys, hn, h => by
    rw [List.nodup_cons] at hn
    have ih := nodup_len xs (ys.erase x) hn.2 fun z hz => (List.mem_erase_of_ne (fun e : z = x => hn.1 (by rw [← e]; exact hz))).mpr (h z (List.mem_cons_of_mem _ hz))
    have := List.length_erase_of_mem (h x List.mem_cons_self)
    have p : 0 < ys.length := List.length_pos_of_mem (h x List.mem_cons_self)
    rw [List.length_cons]; omega
theorem repr_len {g : Pt} (hg : okGround g) {R : List Rd} {F : List (Pt × V3)} {row : List Pt} (hF : Repr F (Reach g R row)) : F.length ≤ 25 := by
  have := nodup_len (F.map (·.1)) (spots g) hF.nd fun p hp => by
    obtain ⟨q, hq, rfl⟩ := List.mem_map.mp hp
    exact (hF.yes q.1 q.2 (mem_alook hF.nd hq)).1.spot
  rw [List.length_map] at this
  exact Nat.le_trans this (spots_25 hg)
theorem bw_turn3 {g : Pt} (hg : okGround g) (R : List Rd) (RW : D) (h : Pt) {F : List (Pt × V3)} {row : List Pt} (hF : Repr F (Reach g R row)) (hr : row.length ≤ 100) (s : SV) (hs : s = .od (kvD vD F) ∨ s = .d (.dict (kvD vD F))) :
    lpF (.nm 4) b_best_way_3 [4, 5, 6, 7, 8, 9, 10, 11, 12] (pt h) [.d (pt g), .d (rds R), .d RW, s, .un, .un, .un, .un, .un, .un, .un, .un, .un] =
      some (.nx, [.d (pt g), .d (rds R), .d RW, .d (.dict (kvD vD (nextF g R F h))), .un, .un, .un, .un, .un, .un, .un, .un, .un]) := by
  have l := bw_loop2 hg R RW h F hF.nd (fun q hq => by rw [(hF.yes q.1 q.2 (mem_alook hF.nd hq)).1.len]; omega) (Nat.le_trans (repr_len hg hF) (by omega))
  have ks : (kvD vD F).map (·.1) = F.map fun q => pt q.1 := by unfold kvD; rw [List.map_map]; rfl
  have e0 : kvD vD ([] : List (Pt × V3)) = [] := rfl
  rw [e0] at l
  rw [lpF_eq]
  rcases hs with rfl | rfl <;> simp only [b_best_way_3, denSs, dS_asg, dS_asgO, dS_asgD, dS_asgT, dS_par, dS_app, dS_put, dS_ret, dS_ite, dS_exp, dS_setB, denT, denTs, dE_var, dE_glo, dE_int, dE_str, dE_bl, dE_non, dE_tup, dE_lst, dE_bin, dE_neg, dE_cmp, dE_chn, dE_and, dE_or, dE_nt, dE_ite, dE_call, dE_callB, dE_fn, dE_fn2, dE_max3, dE_isi, dE_idx, dE_cut, dE_step, dE_index, dE_oIdx, dE_oIn, dE_oGet, dE_oLen, dE_oCmp, dE_sortK, dE_lc, dE_lc2, dE_dc, denEs, denO, denIt, rdVar, isOwn, isOl, isOd, storeAll, bindT, wipeE, backE, plainSlot, walked, items, truth, asInt, outOf, List.getElem?_cons_zero, List.getElem?_cons_succ, List.set_cons_zero, List.set_cons_succ, Option.bind_some, Option.map_some, List.map_cons, List.map_nil, List.all_cons, List.all_nil, Bool.and_true, Bool.true_and, if_true, Bool.false_eq_true, if_false, dS_loop, ks, l]
theorem bw_loop3 {g : Pt} (hg : okGround g) (R : List Rd) (RW : D) : ∀ (hs : List Pt) {F : List (Pt × V3)} {row : List Pt} (s : SV), Repr F (Reach g R row) → row ≠ [] → row.length + hs.length ≤ 100 → (s = .od (kvD vD F) ∨ s = .d (.dict (kvD vD F))) →
    ∃ F' s', loopGo (lpF (.nm 4) b_best_way_3 [4, 5, 6, 7, 8, 9, 10, 11, 12]) (hs.map pt) [.d (pt g), .d (rds R), .d RW, s, .un, .un, .un, .un, .un, .un, .un, .un, .un] = some (.nx, [.d (pt g), .d (rds R), .d RW, s', .un, .un, .un, .un, .un, .un, .un, .un, .un]) ∧ Repr F' (Reach g R (hs.reverse ++ row)) ∧ (s' = .od (kvD vD F') ∨ s' = .d (.dict (kvD vD F')))
  | [], F, row, s, hF, _, _, hs => ⟨F, s, rfl, hF, hs⟩
  | h :: hs, F, row, s, hF, hr, hl, hh => by
    rw [List.length_cons] at hl
    obtain ⟨F', s', l, hF', hs'⟩ := bw_loop3 hg R RW hs (F := nextF g R F h) (row := h :: row) _ (next_repr h hF hr) (by simp) (by rw [List.length_cons]; omega) (.inr rfl)
    refine ⟨F', s', ?_, by rw [List.reverse_cons, List.append_assoc]; exact hF', hs'⟩
    rw [List.map_cons]
    simp only [loopGo]
    rw [bw_turn3 hg R RW h hF (by omega) s hh, Option.bind_some]
    exact l
def firstF (g h : Pt) : List (Pt × V3) := (spots g).map fun p => (p, ⟨0, dist p h, ⟨[p]⟩⟩)
theorem first_repr {g : Pt} (hg : okGround g) (R : List Rd) (h : Pt) : Repr (firstF g h) (Reach g R [h]) := by
  have nd : ((firstF g h).map (·.1)).Nodup := by
    have : (firstF g h).map (·.1) = spots g := by unfold firstF; rw [List.map_map]; exact List.map_id _
    rw [this]; exact spots_nodup hg
  have mem : ∀ o v, (o, v) ∈ firstF g h ↔ Reach g R [h] o v := by
    intro o v
    constructor
    · intro hm
      obtain ⟨p, hp, e⟩ := List.mem_map.mp hm
      obtain ⟨rfl, rfl⟩ := Prod.mk.inj e
      exact .one hp
    · intro hv
      cases hv with
      | one hp => exact List.mem_map.mpr ⟨o, hp, rfl⟩
      | step hv _ => cases hv
  refine ⟨nd, fun o v hv => ⟨(mem o v).mp (alook_mem hv), fun y hy => ?_⟩, fun o hn v hv => alook_none.mp hn v ((mem o v).mpr hv)⟩
  have := mem_alook nd ((mem o y).mpr hy)
  rw [hv] at this
  cases this
  exact ol_irr _
theorem aput_new {α ν : Type} [DecidableEq α] [DatumOrd α] {kvs : List (α × ν)} {k : α} (h : alook kvs k = none) (v : ν) : aput kvs k v = kvs ++ [(k, v)] := by
  unfold aput
  rw [if_neg (fun z => any_key.mp z h)]
theorem dcGo_of {α ν β : Type} [DecidableEq α] [DatumOrd α] {f : D → Env → Option ((D × D) × Env)} {ρ : Env} {d : β → D} (k : β → α) (v : β → ν) (vf : ν → D) (hk : ∀ (kvs : List (α × ν)) (k : α), fitsK (kvD vf kvs) (Datum.toD k) = true) : ∀ (ys : List β) (acc : List (α × ν)), (∀ y ∈ ys, f (d y) ρ = some ((Datum.toD (k y), vf (v y)), ρ)) → ((acc.map (·.1)) ++ ys.map k).Nodup → acc.length + ys.length ≤ 1000 →
    dcGo f (ys.map d) ρ (kvD vf acc) = some (kvD vf (acc ++ ys.map fun y => (k y, v y)), ρ)
  | [], acc, _, _, _ => by simp [dcGo]
  | y :: ys, acc, hf, hn, hl => by
    rw [List.length_cons] at hl
    have L : (fitsK (kvD vf acc) (Datum.toD (k y)) && decide ((kvD vf acc).length ≤ 100000)) = true := by
      rw [hk]; unfold kvD; rw [List.length_map]; exact decide_eq_true (by omega)
    have no : alook acc (k y) = none := alook_none.mpr fun w hw => by
      rw [List.map_cons, List.nodup_append] at hn
      exact hn.2.2 _ (List.mem_map.mpr ⟨_, hw, rfl⟩) _ List.mem_cons_self rfl
    rw [List.map_cons]
    simp only [dcGo]
    rw [hf y List.mem_cons_self, Option.bind_some]
    show (if (fitsK (kvD vf acc) (Datum.toD (k y)) && decide ((kvD vf acc).length ≤ 100000)) = true then dcGo f (ys.map d) ρ (dput (kvD vf acc) (Datum.toD (k y)) (vf (v y))) else none) = _
    rw [L, if_pos rfl, dput_kvD, aput_new no, dcGo_of k v vf hk ys _ (fun z hz => hf z (List.mem_cons_of_mem _ hz)) (by simpa [List.append_assoc] using hn) (by rw [List.length_append]; simp; omega), List.append_assoc]
    rfl
theorem best_way_eq {g : Pt} {R : List Rd} {h : Pt} {hs : List Pt} (hg : okGround g) (hR : okRoads g R) (hr : okRow g (h :: hs)) : ∃ v, F_best_way [pt g, rds R, pts (h :: hs)] = some (vD v) ∧ Least (fun v => ∃ p, Reach g R (h :: hs).reverse p v) v := by
  have hl := hr.2.1
  rw [List.length_cons] at hl
  obtain ⟨F, s, l, hF, hss⟩ := bw_loop3 hg R (pts (h :: hs)) hs (.od (kvD vD (firstF g h))) (first_repr hg R h) (by simp) (by simp; omega) (.inl rfl)
  have hrev : hs.reverse ++ [h] = (h :: hs).reverse := by rw [List.reverse_cons]
  rw [hrev] at hF
  have dc := dcGo_of (α := Pt) (ν := V3) (f := dcF (.var 6) (.tup (.cons (.int 0) (.cons (.call "far" F_far (.cons (.var 6) (.cons (.idx (.var 2) (.int 0)) .nil))) (.cons (.tup (.cons (.var 6) .nil)) .nil)))) (.nm 6) [6])
    (ρ := [.d (pt g), .d (rds R), .d (pts (h :: hs)), .un, .un, .un, .un, .un, .un, .un, .un, .un, .un]) (d := pt) (fun p => p) (fun p => ⟨0, dist p h, ⟨[p]⟩⟩) vD (fun kvs k => fits_pt kvs k) (spots g) [] (fun p _ => by
      have i0 : evIdx (pts (h :: hs)) (.int 0) = some (pt h) := rfl
      simp only [dcF, denSs, dS_asg, dS_asgO, dS_asgD, dS_asgT, dS_par, dS_app, dS_put, dS_ret, dS_ite, dS_exp, dS_setB, denT, denTs, dE_var, dE_glo, dE_int, dE_str, dE_bl, dE_non, dE_tup, dE_lst, dE_bin, dE_neg, dE_cmp, dE_chn, dE_and, dE_or, dE_nt, dE_ite, dE_call, dE_callB, dE_fn, dE_fn2, dE_max3, dE_isi, dE_idx, dE_cut, dE_step, dE_index, dE_oIdx, dE_oIn, dE_oGet, dE_oLen, dE_oCmp, dE_sortK, dE_lc, dE_lc2, dE_dc, denEs, denO, denIt, rdVar, isOwn, isOl, isOd, storeAll, bindT, wipeE, backE, plainSlot, walked, items, truth, asInt, outOf, List.getElem?_cons_zero, List.getElem?_cons_succ, List.set_cons_zero, List.set_cons_succ, Option.bind_some, Option.map_some, List.map_cons, List.map_nil, List.all_cons, List.all_nil, Bool.and_true, Bool.true_and, if_true, Bool.false_eq_true, if_false, i0, far_eq]
      rfl) (by simp; exact spots_nodup hg) (by have := spots_25 hg; simp; omega)
  have cu : evCut (pts (h :: hs)) (some 1) none = some (.tuple (hs.map pt)) := by
    show some (PyData.tuple (cutL ((h :: hs).map pt) (some 1) none)) = _
    rw [cut_one]; rfl
  have hne : F ≠ [] := by
    rintro rfl
    have : ∀ (row : List Pt), row ≠ [] → ∃ p v, Reach g R row p v := by
      intro row hrow
      induction row with
      | nil => exact absurd rfl hrow
      | cons a r ih =>
        have sp : ((0 : Int), (0 : Int)) ∈ spots g := spots_mem.mpr ⟨Int.le_refl 0, by have := hg.1; show (0 : Int) < g.1; omega, Int.le_refl 0, by have := hg.2.2.1; show (0 : Int) < g.2; omega⟩
        cases r with
        | nil => exact ⟨_, _, .one sp⟩
        | cons b r =>
          obtain ⟨p, v, hv⟩ := ih (by simp)
          obtain ⟨s, hs⟩ := List.exists_mem_of_ne_nil _ (steps_ne R hv.spot)
          exact ⟨_, _, .step hv hs⟩
    obtain ⟨p, v, hv⟩ := this (h :: hs).reverse (by simp)
    exact hF.no p rfl v hv
  obtain ⟨m, _, hm⟩ := leastOf_ne (xs := F.map (·.2)) (by simpa using hne)
  have vals : (kvD vD F).map (·.2) = (F.map (·.2)).map Datum.toD := by unfold kvD; rw [List.map_map, List.map_map]; rfl
  have mv : evFn .minVals (.dict (kvD vD F)) = some (vD m) := by
    show minL ((kvD vD F).map (·.2)) = _
    rw [vals]
    exact ev_minL_least (α := V3) (by decide) hm
  refine ⟨m, ?_, ?_, ?_⟩
  · have e : F_best_way [pt g, rds R, pts (h :: hs)] = (denSs il_best_way [.d (pt g), .d (rds R), .d (pts (h :: hs)), .un, .un, .un, .un, .un, .un, .un, .un, .un, .un]).bind fun (o, _) => some (outOf o) := rfl
    have s1 : small 1 = true := by decide
    have e0 : kvD vD ([] : List (Pt × V3)) = [] := rfl
    rw [e0, List.nil_append] at dc
    have dc' : dcGo _ _ _ [] = some (kvD vD (firstF g h), _) := dc
    rw [e]
    rcases hss with rfl | rfl <;> simp only [il_best_way, denSs, dS_asg, dS_asgO, dS_asgD, dS_asgT, dS_par, dS_app, dS_put, dS_ret, dS_ite, dS_exp, dS_setB, denT, denTs, dE_var, dE_glo, dE_int, dE_str, dE_bl, dE_non, dE_tup, dE_lst, dE_bin, dE_neg, dE_cmp, dE_chn, dE_and, dE_or, dE_nt, dE_ite, dE_call, dE_callB, dE_fn, dE_fn2, dE_max3, dE_isi, dE_idx, dE_cut, dE_step, dE_index, dE_oIdx, dE_oIn, dE_oGet, dE_oLen, dE_oCmp, dE_sortK, dE_lc, dE_lc2, dE_dc, denEs, denO, denIt, rdVar, isOwn, isOl, isOd, storeAll, bindT, wipeE, backE, plainSlot, walked, items, truth, asInt, outOf, List.getElem?_cons_zero, List.getElem?_cons_succ, List.set_cons_zero, List.set_cons_succ, Option.bind_some, Option.map_some, List.map_cons, List.map_nil, List.all_cons, List.all_nil, Bool.and_true, Bool.true_and, if_true, Bool.false_eq_true, if_false, look_roads hg hR, look_row hr, points_eq hg, plainSlot, dc', dS_loop, s1, cu, l, mv]
  · obtain ⟨q, hq, rfl⟩ := List.mem_map.mp hm.1
    exact ⟨q.1, (hF.yes q.1 q.2 (mem_alook hF.nd hq)).1⟩
  · rintro y ⟨p, hy⟩
    cases ha : alook F p with
    | none => exact absurd hy (hF.no p ha y)
    | some w => exact ol_ntr ((hF.yes p w ha).2 y hy) (hm.2 w (List.mem_map.mpr ⟨(p, w), alook_mem ha, rfl⟩))
end WM.Pr
set_option Elab.async false
set_option linter.all false
set_option maxRecDepth 100000
set_option maxHeartbeats 4000000
/-! WmG8: what papers of ways show. -/
namespace WM.Pr
open PySem PySem.W WM

abbrev PF := Pt → Int × Int
def intsOf : D → Option (Int × Int)
  | .tuple [.int a, .int b] => some (a, b)
  | _ => none
def rowPairs : List D → Option (List (Int × Int))
  | [] => some []
  | x :: xs => (intsOf x).bind fun q => (rowPairs xs).bind fun qs => some (q :: qs)
def rowOf (n : Nat) : D → Option (List (Int × Int))
  | .tuple xs => if xs.length = n then rowPairs xs else none
  | _ => none
theorem intsOf_some {d : D} {q : Int × Int} (h : intsOf d = some q) : d = pt q := by
  unfold intsOf at h
  split at h
  · cases h; rfl
  · cases h
theorem rowPairs_some : ∀ {xs : List D} {qs : List (Int × Int)}, rowPairs xs = some qs → xs = qs.map pt
  | [], qs, h => by cases h; rfl
  | x :: xs, qs, h => by
    simp only [rowPairs] at h
    cases e : intsOf x with
    | none => rw [e] at h; cases h
    | some q =>
      rw [e, Option.bind_some] at h
      cases e2 : rowPairs xs with
      | none => rw [e2] at h; cases h
      | some r =>
        rw [e2, Option.bind_some] at h
        cases h
        rw [intsOf_some e, rowPairs_some e2]; rfl
theorem rowPairs_map : ∀ qs : List (Int × Int), rowPairs (qs.map pt) = some qs
  | [] => rfl
  | q :: qs => by
    rw [List.map_cons]
    simp only [rowPairs]
    rw [rowPairs_map qs]; rfl
theorem rowPairs_isSome : ∀ xs : List D, (rowPairs xs).isSome = (xs.map fun x => (intsOf x).isSome).all id
  | [] => rfl
  | x :: xs => by
    rw [List.map_cons, List.all_cons, ← rowPairs_isSome xs]
    simp only [rowPairs]
    cases intsOf x with
    | none => rfl
    | some q => cases rowPairs xs <;> rfl
theorem rowOf_some {n : Nat} {d : D} {qs : List (Int × Int)} (h : rowOf n d = some qs) : d = .tuple (qs.map pt) ∧ qs.length = n := by
  unfold rowOf at h
  split at h
  · rename_i xs
    split at h
    · rename_i hl
      have := rowPairs_some h
      subst this
      rw [List.length_map] at hl
      exact ⟨rfl, hl⟩
    · cases h
  · cases h
theorem len_two {β : Type} {xs : List β} (h : xs.length = 2) : ∃ a b, xs = [a, b] := by
  match xs, h with
  | [a, b], _ => exact ⟨a, b, rfl⟩
theorem lcGo_id {f : D → Env → Option (List D × Env)} {ρ : Env} {h : D → D} (ys : List D) (hh : ∀ y ∈ ys, f y ρ = some ([h y], ρ)) : lcGo f ys ρ = some (ys.map h, ρ) := by
  have := lcGo_of (d := id) ys hh
  rwa [List.map_id] at this
theorem ev_any (bs : List Bool) : evFn .any (.list (bs.map PyData.bool)) = some (.bool (bs.any id)) := by
  have h1 : PyData.plainAll (bs.map PyData.bool) = true := by
    induction bs with
    | nil => rfl
    | cons b bs ih => rw [List.map_cons, PyData.plainAll, ih]; rfl
  have h2 : (bs.map PyData.bool).all (fun d => match d with | .bool _ => true | _ => false) = true := by
    clear h1
    induction bs with
    | nil => rfl
    | cons b bs ih => exact ih
  have h3 : (bs.map PyData.bool).any PyData.truthy = bs.any id := by
    rw [List.any_map]; rfl
  have e : evFn .any (.list (bs.map PyData.bool)) = if PyData.plainAll (bs.map PyData.bool) && (bs.map PyData.bool).all (fun d => match d with | .bool _ => true | _ => false) then some (.bool ((bs.map PyData.bool).any PyData.truthy)) else none := rfl
  rw [e, h1, h2, h3]; rfl
theorem ev_allF {β : Type} (xs : List β) (b : β → Bool) : evFn .all (.list (xs.map fun x => PyData.bool (b x))) = some (.bool (xs.all b)) := by
  have := ev_all (xs.map b)
  rw [List.map_map, List.all_map] at this
  exact this
theorem ev_anyF {β : Type} (xs : List β) (b : β → Bool) : evFn .any (.list (xs.map fun x => PyData.bool (b x))) = some (.bool (xs.any b)) := by
  have := ev_any (xs.map b)
  rw [List.map_map, List.any_map] at this
  exact this
theorem lenOk_map {β : Type} (xs : List β) (f : β → D) (h : xs.length ≤ 1000000) : lenOk (xs.map f) = true := by
  unfold lenOk; rw [List.length_map]; exact decide_eq_true h
theorem ap_elem (T N x : D) : den (.and (.isi (.var 2) [.tuple]) (.and (.cmp .eq (.fn .len (.var 2)) (.int 2)) (.fn .all (.lc (.call "is_whole" F_is_whole (.cons (.var 3) .nil)) (.nm 3) (.seq (.var 2)) .nil [("one", 3)])))) [.d T, .d N, .d x, .un] = some (.bool (intsOf x).isSome, [.d T, .d N, .d x, .un]) := by
  cases x with
  | tuple xs =>
    by_cases hl : xs.length = 2
    · obtain ⟨a, b, rfl⟩ := len_two hl
      have c : evCmp .eq (.int (([a, b] : List D).length : Int)) (.int 2) = some true := by rw [eq_int]; rfl
      have L : lenOk [PyData.bool (isInt a), PyData.bool (isInt b)] = true := rfl
      have al : evFn .all (.list [.bool (isInt a), .bool (isInt b)]) = some (.bool (isInt a && isInt b)) := by
        have := ev_all [isInt a, isInt b]
        simpa using this
      have i : (intsOf (.tuple [a, b])).isSome = (isInt a && isInt b) := by cases a <;> cases b <;> rfl
      simp only [denSs, dS_asg, dS_asgO, dS_asgD, dS_asgT, dS_par, dS_app, dS_put, dS_ret, dS_ite, dS_exp, dS_setB, denT, denTs, dE_var, dE_glo, dE_int, dE_str, dE_bl, dE_non, dE_tup, dE_lst, dE_bin, dE_neg, dE_cmp, dE_chn, dE_and, dE_or, dE_nt, dE_ite, dE_call, dE_callB, dE_fn, dE_fn2, dE_max3, dE_isi, dE_idx, dE_cut, dE_step, dE_index, dE_oIdx, dE_oIn, dE_oGet, dE_oLen, dE_oCmp, dE_sortK, dE_lc, dE_lc2, dE_dc, denEs, denO, denIt, rdVar, isOwn, isOl, isOd, storeAll, bindT, wipeE, backE, plainSlot, walked, items, truth, asInt, outOf, List.getElem?_cons_zero, List.getElem?_cons_succ, List.set_cons_zero, List.set_cons_succ, Option.bind_some, Option.map_some, List.map_cons, List.map_nil, List.all_cons, List.all_nil, Bool.and_true, Bool.true_and, if_true, Bool.false_eq_true, if_false, List.any_cons, List.any_nil, isTy, Bool.or_false, ev_lenT, c, plainSlot, lcGo, lcF, whole_eq, List.append_nil, List.singleton_append, L, al, i]
    · have c : evCmp .eq (.int (xs.length : Int)) (.int 2) = some false := by rw [eq_int]; exact congrArg some (decide_eq_false (by omega))
      have i : (intsOf (.tuple xs)).isSome = false := by
        unfold intsOf
        split
        · rename_i e; cases e; exact absurd rfl hl
        · rfl
      simp only [denSs, dS_asg, dS_asgO, dS_asgD, dS_asgT, dS_par, dS_app, dS_put, dS_ret, dS_ite, dS_exp, dS_setB, denT, denTs, dE_var, dE_glo, dE_int, dE_str, dE_bl, dE_non, dE_tup, dE_lst, dE_bin, dE_neg, dE_cmp, dE_chn, dE_and, dE_or, dE_nt, dE_ite, dE_call, dE_callB, dE_fn, dE_fn2, dE_max3, dE_isi, dE_idx, dE_cut, dE_step, dE_index, dE_oIdx, dE_oIn, dE_oGet, dE_oLen, dE_oCmp, dE_sortK, dE_lc, dE_lc2, dE_dc, denEs, denO, denIt, rdVar, isOwn, isOl, isOd, storeAll, bindT, wipeE, backE, plainSlot, walked, items, truth, asInt, outOf, List.getElem?_cons_zero, List.getElem?_cons_succ, List.set_cons_zero, List.set_cons_succ, Option.bind_some, Option.map_some, List.map_cons, List.map_nil, List.all_cons, List.all_nil, Bool.and_true, Bool.true_and, if_true, Bool.false_eq_true, if_false, List.any_cons, List.any_nil, isTy, Bool.or_false, ev_lenT, c, i]
  | _ => simp only [denSs, dS_asg, dS_asgO, dS_asgD, dS_asgT, dS_par, dS_app, dS_put, dS_ret, dS_ite, dS_exp, dS_setB, denT, denTs, dE_var, dE_glo, dE_int, dE_str, dE_bl, dE_non, dE_tup, dE_lst, dE_bin, dE_neg, dE_cmp, dE_chn, dE_and, dE_or, dE_nt, dE_ite, dE_call, dE_callB, dE_fn, dE_fn2, dE_max3, dE_isi, dE_idx, dE_cut, dE_step, dE_index, dE_oIdx, dE_oIn, dE_oGet, dE_oLen, dE_oCmp, dE_sortK, dE_lc, dE_lc2, dE_dc, denEs, denO, denIt, rdVar, isOwn, isOl, isOd, storeAll, bindT, wipeE, backE, plainSlot, walked, items, truth, asInt, outOf, List.getElem?_cons_zero, List.getElem?_cons_succ, List.set_cons_zero, List.set_cons_succ, Option.bind_some, Option.map_some, List.map_cons, List.map_nil, List.all_cons, List.all_nil, Bool.and_true, Bool.true_and, if_true, Bool.false_eq_true, if_false, List.any_cons, List.any_nil, isTy, Bool.or_false]; rfl
theorem are_pairs_eq (n : Nat) (hn : n ≤ 1000) (d : D) : F_are_pairs [d, .int n] = some (.bool (rowOf n d).isSome) := by
  have e : F_are_pairs [d, .int n] = (denSs il_are_pairs [.d d, .d (.int n), .un, .un]).bind fun (o, _) => some (outOf o) := rfl
  rw [e]
  cases d with
  | tuple xs =>
    by_cases hl : xs.length = n
    · have c : evCmp .ne (.int (xs.length : Int)) (.int n) = some false := by rw [ne_int, hl]; simp
      have L : lenOk (xs.map fun x => PyData.bool (intsOf x).isSome) = true := lenOk_map _ _ (by omega)
      have i : (rowOf n (.tuple xs)).isSome = xs.all fun x => (intsOf x).isSome := by
        show (if xs.length = n then rowPairs xs else none).isSome = _
        rw [if_pos hl, rowPairs_isSome, List.all_map]; rfl
      have l := lcGo_id (f := lcF (.and (.isi (.var 2) [.tuple]) (.and (.cmp .eq (.fn .len (.var 2)) (.int 2)) (.fn .all (.lc (.call "is_whole" F_is_whole (.cons (.var 3) .nil)) (.nm 3) (.seq (.var 2)) .nil [("one", 3)])))) (.nm 2) .nil [2]) (ρ := [.d (.tuple xs), .d (.int n), .un, .un]) (h := fun x => PyData.bool (intsOf x).isSome) xs (fun x _ => by
        have t := ap_elem (.tuple xs) (.int n) x
        simp only [lcF, bindT, denTs, wipeE, List.set_cons_zero, List.set_cons_succ, Option.bind_some, if_true, t])
      simp only [il_are_pairs, denSs, dS_asg, dS_asgO, dS_asgD, dS_asgT, dS_par, dS_app, dS_put, dS_ret, dS_ite, dS_exp, dS_setB, denT, denTs, dE_var, dE_glo, dE_int, dE_str, dE_bl, dE_non, dE_tup, dE_lst, dE_bin, dE_neg, dE_cmp, dE_chn, dE_and, dE_or, dE_nt, dE_ite, dE_call, dE_callB, dE_fn, dE_fn2, dE_max3, dE_isi, dE_idx, dE_cut, dE_step, dE_index, dE_oIdx, dE_oIn, dE_oGet, dE_oLen, dE_oCmp, dE_sortK, dE_lc, dE_lc2, dE_dc, denEs, denO, denIt, rdVar, isOwn, isOl, isOd, storeAll, bindT, wipeE, backE, plainSlot, walked, items, truth, asInt, outOf, List.getElem?_cons_zero, List.getElem?_cons_succ, List.set_cons_zero, List.set_cons_succ, Option.bind_some, Option.map_some, List.map_cons, List.map_nil, List.all_cons, List.all_nil, Bool.and_true, Bool.true_and, if_true, Bool.false_eq_true, if_false, List.any_cons, List.any_nil, isTy, Bool.or_false, Bool.not_true, ev_lenT, c, plainSlot, l, L, ev_allF, i]
    · have c : evCmp .ne (.int (xs.length : Int)) (.int n) = some true := by rw [ne_int]; exact congrArg some (decide_eq_true (by omega))
      have i : (rowOf n (.tuple xs)).isSome = false := by
        show (if xs.length = n then rowPairs xs else none).isSome = _
        rw [if_neg hl]; rfl
      simp only [il_are_pairs, denSs, dS_asg, dS_asgO, dS_asgD, dS_asgT, dS_par, dS_app, dS_put, dS_ret, dS_ite, dS_exp, dS_setB, denT, denTs, dE_var, dE_glo, dE_int, dE_str, dE_bl, dE_non, dE_tup, dE_lst, dE_bin, dE_neg, dE_cmp, dE_chn, dE_and, dE_or, dE_nt, dE_ite, dE_call, dE_callB, dE_fn, dE_fn2, dE_max3, dE_isi, dE_idx, dE_cut, dE_step, dE_index, dE_oIdx, dE_oIn, dE_oGet, dE_oLen, dE_oCmp, dE_sortK, dE_lc, dE_lc2, dE_dc, denEs, denO, denIt, rdVar, isOwn, isOl, isOd, storeAll, bindT, wipeE, backE, plainSlot, walked, items, truth, asInt, outOf, List.getElem?_cons_zero, List.getElem?_cons_succ, List.set_cons_zero, List.set_cons_succ, Option.bind_some, Option.map_some, List.map_cons, List.map_nil, List.all_cons, List.all_nil, Bool.and_true, Bool.true_and, if_true, Bool.false_eq_true, if_false, List.any_cons, List.any_nil, isTy, Bool.or_false, Bool.not_true, ev_lenT, c, i]
  | _ => simp only [il_are_pairs, denSs, dS_asg, dS_asgO, dS_asgD, dS_asgT, dS_par, dS_app, dS_put, dS_ret, dS_ite, dS_exp, dS_setB, denT, denTs, dE_var, dE_glo, dE_int, dE_str, dE_bl, dE_non, dE_tup, dE_lst, dE_bin, dE_neg, dE_cmp, dE_chn, dE_and, dE_or, dE_nt, dE_ite, dE_call, dE_callB, dE_fn, dE_fn2, dE_max3, dE_isi, dE_idx, dE_cut, dE_step, dE_index, dE_oIdx, dE_oIn, dE_oGet, dE_oLen, dE_oCmp, dE_sortK, dE_lc, dE_lc2, dE_dc, denEs, denO, denIt, rdVar, isOwn, isOl, isOd, storeAll, bindT, wipeE, backE, plainSlot, walked, items, truth, asInt, outOf, List.getElem?_cons_zero, List.getElem?_cons_succ, List.set_cons_zero, List.set_cons_succ, Option.bind_some, Option.map_some, List.map_cons, List.map_nil, List.all_cons, List.all_nil, Bool.and_true, Bool.true_and, if_true, Bool.false_eq_true, if_false, List.any_cons, List.any_nil, isTy, Bool.or_false, Bool.not_false]; rfl
/-! ### rows as functions of points -/
def fnOf (g : Pt) (qs : List (Int × Int)) : PF := fun p => qs.getD ((spots g).idxOf p) (0, 0)
theorem map_fnOf {g : Pt} (hg : okGround g) {qs : List (Int × Int)} (hl : qs.length = (spots g).length) : (spots g).map (fnOf g qs) = qs := by
  refine List.ext_getElem (by rw [List.length_map, hl]) fun i h1 h2 => ?_
  rw [List.getElem_map]
  unfold fnOf
  have hi : i < (spots g).length := by rw [List.length_map] at h1; exact h1
  have : (spots g).idxOf (spots g)[i] = i := (spots_nodup hg).idxOf_getElem i hi
  rw [this, List.getD_eq_getElem?_getD, List.getElem?_eq_getElem h2]; rfl
def rowFn (g : Pt) (d : D) : Option PF := (rowOf (spots g).length d).map (fnOf g)
theorem rowFn_some {g : Pt} (hg : okGround g) {d : D} {A : PF} (h : rowFn g d = some A) : d = linT g A := by
  unfold rowFn at h
  cases e : rowOf (spots g).length d with
  | none => rw [e] at h; cases h
  | some qs =>
    rw [e] at h
    cases h
    obtain ⟨rfl, hl⟩ := rowOf_some e
    unfold linT
    rw [← map_fnOf hg hl, List.map_map, map_fnOf hg hl]; rfl
theorem rowFn_isSome (g : Pt) (d : D) : (rowFn g d).isSome = (rowOf (spots g).length d).isSome := by unfold rowFn; rw [Option.isSome_map]
theorem rowFn_lin {g : Pt} (A : PF) : rowFn g (linT g A) = some (fnOf g ((spots g).map A)) := by
  unfold rowFn
  have : rowOf (spots g).length (linT g A) = some ((spots g).map A) := by
    show (if ((spots g).map fun p => pt (A p)).length = (spots g).length then rowPairs ((spots g).map fun p => pt (A p)) else none) = _
    rw [if_pos (List.length_map _)]
    have := rowPairs_map ((spots g).map A)
    rw [List.map_map] at this
    exact this
  rw [this]; rfl
theorem fnOf_eq {g : Pt} (hg : okGround g) (A : PF) {p : Pt} (hp : p ∈ spots g) : fnOf g ((spots g).map A) p = A p := by
  unfold fnOf
  have hi := List.idxOf_lt_length_of_mem hp
  rw [List.getD_eq_getElem?_getD, List.getElem?_map, List.getElem?_eq_getElem hi, List.getElem_idxOf hi]; rfl
/-- whether somewhere A stands above B -/
def exceeds (g : Pt) (A B : PF) : Bool := (spots g).any fun p => DatumOrd.lt (B p) (A p)
/-- what a paper shows at its end; none where it is wrong -/
def shownM (g : Pt) (R : List Rd) : Option PF → List Pt → List D → Option (Option PF)
  | o, h :: hs, d :: ds => (rowFn g d).bind fun A => if exceeds g A (nextA g R h o) then none else shownM g R (some A) hs ds
  | o, _, _ => some o
def minOver (g : Pt) (A : PF) : Int × Int := minL1 ((spots g).map A)
def endD (g : Pt) : Option (Option PF) → D
  | some (some A) => pt (minOver g A)
  | _ => .none
theorem spots_ne {g : Pt} (hg : okGround g) : spots g ≠ [] := by
  intro h
  have : ((0 : Int), (0 : Int)) ∈ spots g := spots_mem.mpr ⟨Int.le_refl 0, by have := hg.1; show (0 : Int) < g.1; omega, Int.le_refl 0, by have := hg.2.2.1; show (0 : Int) < g.2; omega⟩
  rw [h] at this; cases this
theorem min_lin {g : Pt} (hg : okGround g) (A : PF) : evFn .min (linT g A) = some (pt (minOver g A)) := by
  have := min_pts (cs := (spots g).map A) (by simpa using spots_ne hg)
  rw [List.map_map] at this
  exact this
theorem bounds_eqT {g : Pt} (hg : okGround g) (R : List Rd) (h : Pt) (o : Option PF) : F_bounds_of [pt g, rds R, pt h, aheadT g o] = some (linL g (nextA g R h o)) := by
  cases o with
  | none => exact bounds0_eq hg _ h
  | some A => exact bounds1_eq hg R h rfl (ahead_of hg A).2
theorem ev_gtP (a b : Int × Int) : evCmp .gt (pt a) (pt b) = some (DatumOrd.lt b a) := ev_gtD (α := Int × Int) (by decide) a b
theorem ws_turn {g : Pt} (hg : okGround g) (R : List Rd) (RW TH N : D) (h : Pt) (A : PF) (o : Option PF) :
    ∃ ρ', lpF (.tp [6, 7]) b_way_shown_1 [6, 7] (.tuple [pt h, linT g A]) [.d (pt g), .d (rds R), .d RW, .d TH, .d N, .d (aheadT g o), .un, .un, .un, .un, .un] =
      some (if exceeds g A (nextA g R h o) then .ret .none else .nx, ρ') ∧ (exceeds g A (nextA g R h o) = false → ρ' = [.d (pt g), .d (rds R), .d RW, .d TH, .d N, .d (aheadT g (some A)), .un, .un, .un, .un, .un]) := by
  have s25 := spots_25 hg
  have b := bounds_eqT hg R h o
  have pu := pairUp_self (fun p => pt (A p)) (fun p => pt (nextA g R h o p)) (spots g)
  have L : lenOk ((spots g).map fun p => PyData.bool (DatumOrd.lt (nextA g R h o p) (A p))) = true := lenOk_map _ _ (by omega)
  have an := ev_anyF (spots g) fun p => DatumOrd.lt (nextA g R h o p) (A p)
  have l : lcGo (lcF (.cmp .gt (.var 9) (.var 10)) (.tp [9, 10]) .nil [9, 10]) ((spots g).map fun p => PyData.tuple [pt (A p), pt (nextA g R h o p)]) [.d (pt g), .d (rds R), .d RW, .d TH, .d N, .d (aheadT g o), .d (pt h), .d (.tuple ((spots g).map fun p => pt (A p))), .un, .un, .un] = some ((spots g).map fun p => PyData.bool (DatumOrd.lt (nextA g R h o p) (A p)), [.d (pt g), .d (rds R), .d RW, .d TH, .d N, .d (aheadT g o), .d (pt h), .d (.tuple ((spots g).map fun p => pt (A p))), .un, .un, .un]) :=
    lcGo_of _ fun p _ => by simp only [lcF, denSs, dS_asg, dS_asgO, dS_asgD, dS_asgT, dS_par, dS_app, dS_put, dS_ret, dS_ite, dS_exp, dS_setB, denT, denTs, dE_var, dE_glo, dE_int, dE_str, dE_bl, dE_non, dE_tup, dE_lst, dE_bin, dE_neg, dE_cmp, dE_chn, dE_and, dE_or, dE_nt, dE_ite, dE_call, dE_callB, dE_fn, dE_fn2, dE_max3, dE_isi, dE_idx, dE_cut, dE_step, dE_index, dE_oIdx, dE_oIn, dE_oGet, dE_oLen, dE_oCmp, dE_sortK, dE_lc, dE_lc2, dE_dc, denEs, denO, denIt, rdVar, isOwn, isOl, isOd, storeAll, bindT, wipeE, backE, plainSlot, walked, items, truth, asInt, outOf, List.getElem?_cons_zero, List.getElem?_cons_succ, List.set_cons_zero, List.set_cons_succ, Option.bind_some, Option.map_some, List.map_cons, List.map_nil, List.all_cons, List.all_nil, Bool.and_true, Bool.true_and, if_true, Bool.false_eq_true, if_false, ev_gtP]
  unfold linL at b
  unfold exceeds
  rw [lpF_eq]
  unfold linT
  cases hx : (spots g).any fun p => DatumOrd.lt (nextA g R h o p) (A p) with
  | true => exact ⟨_, by simp only [b_way_shown_1, denSs, dS_asg, dS_asgO, dS_asgD, dS_asgT, dS_par, dS_app, dS_put, dS_ret, dS_ite, dS_exp, dS_setB, denT, denTs, dE_var, dE_glo, dE_int, dE_str, dE_bl, dE_non, dE_tup, dE_lst, dE_bin, dE_neg, dE_cmp, dE_chn, dE_and, dE_or, dE_nt, dE_ite, dE_call, dE_callB, dE_fn, dE_fn2, dE_max3, dE_isi, dE_idx, dE_cut, dE_step, dE_index, dE_oIdx, dE_oIn, dE_oGet, dE_oLen, dE_oCmp, dE_sortK, dE_lc, dE_lc2, dE_dc, denEs, denO, denIt, rdVar, isOwn, isOl, isOd, storeAll, bindT, wipeE, backE, plainSlot, walked, items, truth, asInt, outOf, List.getElem?_cons_zero, List.getElem?_cons_succ, List.set_cons_zero, List.set_cons_succ, Option.bind_some, Option.map_some, List.map_cons, List.map_nil, List.all_cons, List.all_nil, Bool.and_true, Bool.true_and, if_true, Bool.false_eq_true, if_false, b, pu, plainSlot, l, L, an, hx]; rfl, fun z => by cases z⟩
  | false => exact ⟨_, by simp only [b_way_shown_1, denSs, dS_asg, dS_asgO, dS_asgD, dS_asgT, dS_par, dS_app, dS_put, dS_ret, dS_ite, dS_exp, dS_setB, denT, denTs, dE_var, dE_glo, dE_int, dE_str, dE_bl, dE_non, dE_tup, dE_lst, dE_bin, dE_neg, dE_cmp, dE_chn, dE_and, dE_or, dE_nt, dE_ite, dE_call, dE_callB, dE_fn, dE_fn2, dE_max3, dE_isi, dE_idx, dE_cut, dE_step, dE_index, dE_oIdx, dE_oIn, dE_oGet, dE_oLen, dE_oCmp, dE_sortK, dE_lc, dE_lc2, dE_dc, denEs, denO, denIt, rdVar, isOwn, isOl, isOd, storeAll, bindT, wipeE, backE, plainSlot, walked, items, truth, asInt, outOf, List.getElem?_cons_zero, List.getElem?_cons_succ, List.set_cons_zero, List.set_cons_succ, Option.bind_some, Option.map_some, List.map_cons, List.map_nil, List.all_cons, List.all_nil, Bool.and_true, Bool.true_and, if_true, Bool.false_eq_true, if_false, b, pu, plainSlot, l, L, an, hx]; rfl, fun _ => rfl⟩
theorem ws_loop {g : Pt} (hg : okGround g) (R : List Rd) (RW TH N : D) : ∀ (hs : List Pt) (ds : List D) (o : Option PF), hs.length = ds.length → (∀ d ∈ ds, (rowFn g d).isSome = true) →
    (∃ o', shownM g R o hs ds = some o' ∧ loopGo (lpF (.tp [6, 7]) b_way_shown_1 [6, 7]) (pairUp (hs.map pt) ds) [.d (pt g), .d (rds R), .d RW, .d TH, .d N, .d (aheadT g o), .un, .un, .un, .un, .un] = some (.nx, [.d (pt g), .d (rds R), .d RW, .d TH, .d N, .d (aheadT g o'), .un, .un, .un, .un, .un])) ∨
    (∃ ρ', shownM g R o hs ds = none ∧ loopGo (lpF (.tp [6, 7]) b_way_shown_1 [6, 7]) (pairUp (hs.map pt) ds) [.d (pt g), .d (rds R), .d RW, .d TH, .d N, .d (aheadT g o), .un, .un, .un, .un, .un] = some (.ret .none, ρ'))
  | [], [], o, _, _ => .inl ⟨o, rfl, rfl⟩
  | h :: hs, d :: ds, o, hl, hd => by
    obtain ⟨A, hA⟩ := Option.isSome_iff_exists.mp (hd d List.mem_cons_self)
    have e := rowFn_some hg hA
    obtain ⟨ρ', t, k⟩ := ws_turn hg R RW TH N h A o
    rw [List.map_cons]
    simp only [shownM, pairUp, loopGo, hA, Option.bind_some]
    rw [← e] at t
    rw [t, Option.bind_some]
    cases hx : exceeds g A (nextA g R h o) with
    | true => exact .inr ⟨_, rfl, rfl⟩
    | false =>
      rw [k hx]
      exact ws_loop hg R RW TH N hs ds (some A) (by simpa using hl) fun z hz => hd z (List.mem_cons_of_mem _ hz)
theorem shownM_bad {g : Pt} (R : List Rd) : ∀ (hs : List Pt) (ds : List D) (o : Option PF), hs.length = ds.length → (ds.all fun d => (rowFn g d).isSome) = false → shownM g R o hs ds = none
  | [], [], _, _, h => by simp at h
  | h :: hs, d :: ds, o, hl, hb => by
    simp only [shownM]
    cases e : rowFn g d with
    | none => rfl
    | some A =>
      rw [List.all_cons, e] at hb
      have hb' : (ds.all fun d => (rowFn g d).isSome) = false := by simpa using hb
      rw [Option.bind_some, shownM_bad R hs ds (some A) (by simpa using hl) hb']
      split <;> rfl
/-- what a thing shows as a paper -/
def showD (g : Pt) (R : List Rd) (row : List Pt) : D → D
  | .tuple ds => if ds.length = row.length then endD g (shownM g R none row ds) else .none
  | _ => .none
theorem shown_some {g : Pt} {R : List Rd} : ∀ {hs : List Pt} {ds : List D} {o o' : Option PF}, shownM g R o hs ds = some o' → hs.length = ds.length → hs ≠ [] → ∃ A, o' = some A
  | h :: [], d :: [], o, o', e, _, _ => by
    simp only [shownM] at e
    cases hA : rowFn g d with
    | none => rw [hA] at e; cases e
    | some A =>
      rw [hA, Option.bind_some] at e
      split at e
      · cases e
      · cases e; exact ⟨A, rfl⟩
  | h :: h2 :: hs, d :: d2 :: ds, o, o', e, hl, _ => by
    simp only [shownM] at e
    cases hA : rowFn g d with
    | none => rw [hA] at e; cases e
    | some A =>
      rw [hA, Option.bind_some] at e
      split at e
      · cases e
      · exact shown_some (hs := h2 :: hs) (ds := d2 :: ds) (o := some A) e (by simpa using hl) (by simp)
theorem way_shown_eq {g : Pt} {R : List Rd} {row : List Pt} (hg : okGround g) (hR : okRoads g R) (hr : okRow g row) (x : D) : F_way_shown [pt g, rds R, pts row, x] = some (showD g R row x) := by
  have e : F_way_shown [pt g, rds R, pts row, x] = (denSs il_way_shown [.d (pt g), .d (rds R), .d (pts row), .d x, .un, .un, .un, .un, .un, .un, .un]).bind fun (o, _) => some (outOf o) := rfl
  have s25 := spots_25 hg
  have lp : evFn .len (.list ((spots g).map pt)) = some (.int (spots g).length) := by rw [ev_lenL, List.length_map]
  have lr : evFn .len (pts row) = some (.int row.length) := by rw [ev_lenT, List.length_map]
  rw [e]
  cases x with
  | tuple ds =>
    by_cases hl : ds.length = row.length
    · have c : evCmp .ne (.int (ds.length : Int)) (.int (row.length : Int)) = some false := by rw [ne_int, hl]; simp
      have L : lenOk (ds.map fun d => PyData.bool (rowFn g d).isSome) = true := lenOk_map _ _ (by have := hr.2.1; omega)
      have l : lcGo (lcF (.call "are_pairs" F_are_pairs (.cons (.var 8) (.cons (.var 4) .nil))) (.nm 8) .nil [8]) ds [.d (pt g), .d (rds R), .d (pts row), .d (.tuple ds), .d (.int (spots g).length), .un, .un, .un, .un, .un, .un] = some (ds.map fun d => PyData.bool (rowFn g d).isSome, [.d (pt g), .d (rds R), .d (pts row), .d (.tuple ds), .d (.int (spots g).length), .un, .un, .un, .un, .un, .un]) :=
        lcGo_id _ fun d _ => by simp only [lcF, denSs, dS_asg, dS_asgO, dS_asgD, dS_asgT, dS_par, dS_app, dS_put, dS_ret, dS_ite, dS_exp, dS_setB, denT, denTs, dE_var, dE_glo, dE_int, dE_str, dE_bl, dE_non, dE_tup, dE_lst, dE_bin, dE_neg, dE_cmp, dE_chn, dE_and, dE_or, dE_nt, dE_ite, dE_call, dE_callB, dE_fn, dE_fn2, dE_max3, dE_isi, dE_idx, dE_cut, dE_step, dE_index, dE_oIdx, dE_oIn, dE_oGet, dE_oLen, dE_oCmp, dE_sortK, dE_lc, dE_lc2, dE_dc, denEs, denO, denIt, rdVar, isOwn, isOl, isOd, storeAll, bindT, wipeE, backE, plainSlot, walked, items, truth, asInt, outOf, List.getElem?_cons_zero, List.getElem?_cons_succ, List.set_cons_zero, List.set_cons_succ, Option.bind_some, Option.map_some, List.map_cons, List.map_nil, List.all_cons, List.all_nil, Bool.and_true, Bool.true_and, if_true, Bool.false_eq_true, if_false, are_pairs_eq _ (show (spots g).length ≤ 1000 by omega), rowFn_isSome]
      have al := ev_allF ds fun d => (rowFn g d).isSome
      have sh : showD g R row (.tuple ds) = endD g (shownM g R none row ds) := by
        show (if ds.length = row.length then _ else _) = _
        rw [if_pos hl]
      rw [sh]
      cases ha : ds.all fun d => (rowFn g d).isSome with
      | false =>
        rw [shownM_bad R row ds none hl.symm ha]
        simp only [il_way_shown, denSs, dS_asg, dS_asgO, dS_asgD, dS_asgT, dS_par, dS_app, dS_put, dS_ret, dS_ite, dS_exp, dS_setB, denT, denTs, dE_var, dE_glo, dE_int, dE_str, dE_bl, dE_non, dE_tup, dE_lst, dE_bin, dE_neg, dE_cmp, dE_chn, dE_and, dE_or, dE_nt, dE_ite, dE_call, dE_callB, dE_fn, dE_fn2, dE_max3, dE_isi, dE_idx, dE_cut, dE_step, dE_index, dE_oIdx, dE_oIn, dE_oGet, dE_oLen, dE_oCmp, dE_sortK, dE_lc, dE_lc2, dE_dc, denEs, denO, denIt, rdVar, isOwn, isOl, isOd, storeAll, bindT, wipeE, backE, plainSlot, walked, items, truth, asInt, outOf, List.getElem?_cons_zero, List.getElem?_cons_succ, List.set_cons_zero, List.set_cons_succ, Option.bind_some, Option.map_some, List.map_cons, List.map_nil, List.all_cons, List.all_nil, Bool.and_true, Bool.true_and, if_true, Bool.false_eq_true, if_false, look_roads hg hR, look_row hr, points_eq hg, lp, lr, List.any_cons, List.any_nil, isTy, Bool.or_false, Bool.not_true, Bool.not_false, ev_lenT, c, plainSlot, l, L, al, ha, endD]
      | true =>
        have hd := List.all_eq_true.mp ha
        rcases ws_loop hg R (pts row) (.tuple ds) (.int (spots g).length) row ds none hl.symm hd with ⟨o', e1, l2⟩ | ⟨ρ', e1, l2⟩
        · obtain ⟨A, rfl⟩ := shown_some e1 hl.symm (by intro z; rw [z] at hr; exact absurd hr.1 (by simp))
          have ml : evFn .min (aheadT g (some A)) = some (pt (minOver g A)) := min_lin hg A
          have l2' : loopGo (lpF (.tp [6, 7]) b_way_shown_1 [6, 7]) (pairUp (row.map pt) ds) [.d (pt g), .d (rds R), .d (pts row), .d (.tuple ds), .d (.int (spots g).length), .d .none, .un, .un, .un, .un, .un] = _ := l2
          rw [e1]
          simp only [il_way_shown, denSs, dS_asg, dS_asgO, dS_asgD, dS_asgT, dS_par, dS_app, dS_put, dS_ret, dS_ite, dS_exp, dS_setB, denT, denTs, dE_var, dE_glo, dE_int, dE_str, dE_bl, dE_non, dE_tup, dE_lst, dE_bin, dE_neg, dE_cmp, dE_chn, dE_and, dE_or, dE_nt, dE_ite, dE_call, dE_callB, dE_fn, dE_fn2, dE_max3, dE_isi, dE_idx, dE_cut, dE_step, dE_index, dE_oIdx, dE_oIn, dE_oGet, dE_oLen, dE_oCmp, dE_sortK, dE_lc, dE_lc2, dE_dc, denEs, denO, denIt, rdVar, isOwn, isOl, isOd, storeAll, bindT, wipeE, backE, plainSlot, walked, items, truth, asInt, outOf, List.getElem?_cons_zero, List.getElem?_cons_succ, List.set_cons_zero, List.set_cons_succ, Option.bind_some, Option.map_some, List.map_cons, List.map_nil, List.all_cons, List.all_nil, Bool.and_true, Bool.true_and, if_true, Bool.false_eq_true, if_false, look_roads hg hR, look_row hr, points_eq hg, lp, lr, List.any_cons, List.any_nil, isTy, Bool.or_false, Bool.not_true, Bool.not_false, ev_lenT, c, plainSlot, l, L, al, ha, endD, dS_loop, l2', ml]
        · have l2' : loopGo (lpF (.tp [6, 7]) b_way_shown_1 [6, 7]) (pairUp (row.map pt) ds) [.d (pt g), .d (rds R), .d (pts row), .d (.tuple ds), .d (.int (spots g).length), .d .none, .un, .un, .un, .un, .un] = _ := l2
          rw [e1]
          simp only [il_way_shown, denSs, dS_asg, dS_asgO, dS_asgD, dS_asgT, dS_par, dS_app, dS_put, dS_ret, dS_ite, dS_exp, dS_setB, denT, denTs, dE_var, dE_glo, dE_int, dE_str, dE_bl, dE_non, dE_tup, dE_lst, dE_bin, dE_neg, dE_cmp, dE_chn, dE_and, dE_or, dE_nt, dE_ite, dE_call, dE_callB, dE_fn, dE_fn2, dE_max3, dE_isi, dE_idx, dE_cut, dE_step, dE_index, dE_oIdx, dE_oIn, dE_oGet, dE_oLen, dE_oCmp, dE_sortK, dE_lc, dE_lc2, dE_dc, denEs, denO, denIt, rdVar, isOwn, isOl, isOd, storeAll, bindT, wipeE, backE, plainSlot, walked, items, truth, asInt, outOf, List.getElem?_cons_zero, List.getElem?_cons_succ, List.set_cons_zero, List.set_cons_succ, Option.bind_some, Option.map_some, List.map_cons, List.map_nil, List.all_cons, List.all_nil, Bool.and_true, Bool.true_and, if_true, Bool.false_eq_true, if_false, look_roads hg hR, look_row hr, points_eq hg, lp, lr, List.any_cons, List.any_nil, isTy, Bool.or_false, Bool.not_true, Bool.not_false, ev_lenT, c, plainSlot, l, L, al, ha, endD, dS_loop, l2']
    · have c : evCmp .ne (.int (ds.length : Int)) (.int (row.length : Int)) = some true := by rw [ne_int]; exact congrArg some (decide_eq_true (by omega))
      have sh : showD g R row (.tuple ds) = .none := by
        show (if ds.length = row.length then _ else _) = _
        rw [if_neg hl]
      rw [sh]
      simp only [il_way_shown, denSs, dS_asg, dS_asgO, dS_asgD, dS_asgT, dS_par, dS_app, dS_put, dS_ret, dS_ite, dS_exp, dS_setB, denT, denTs, dE_var, dE_glo, dE_int, dE_str, dE_bl, dE_non, dE_tup, dE_lst, dE_bin, dE_neg, dE_cmp, dE_chn, dE_and, dE_or, dE_nt, dE_ite, dE_call, dE_callB, dE_fn, dE_fn2, dE_max3, dE_isi, dE_idx, dE_cut, dE_step, dE_index, dE_oIdx, dE_oIn, dE_oGet, dE_oLen, dE_oCmp, dE_sortK, dE_lc, dE_lc2, dE_dc, denEs, denO, denIt, rdVar, isOwn, isOl, isOd, storeAll, bindT, wipeE, backE, plainSlot, walked, items, truth, asInt, outOf, List.getElem?_cons_zero, List.getElem?_cons_succ, List.set_cons_zero, List.set_cons_succ, Option.bind_some, Option.map_some, List.map_cons, List.map_nil, List.all_cons, List.all_nil, Bool.and_true, Bool.true_and, if_true, Bool.false_eq_true, if_false, look_roads hg hR, look_row hr, points_eq hg, lp, lr, List.any_cons, List.any_nil, isTy, Bool.or_false, Bool.not_true, Bool.not_false, ev_lenT, c]
  | _ => simp only [il_way_shown, denSs, dS_asg, dS_asgO, dS_asgD, dS_asgT, dS_par, dS_app, dS_put, dS_ret, dS_ite, dS_exp, dS_setB, denT, denTs, dE_var, dE_glo, dE_int, dE_str, dE_bl, dE_non, dE_tup, dE_lst, dE_bin, dE_neg, dE_cmp, dE_chn, dE_and, dE_or, dE_nt, dE_ite, dE_call, dE_callB, dE_fn, dE_fn2, dE_max3, dE_isi, dE_idx, dE_cut, dE_step, dE_index, dE_oIdx, dE_oIn, dE_oGet, dE_oLen, dE_oCmp, dE_sortK, dE_lc, dE_lc2, dE_dc, denEs, denO, denIt, rdVar, isOwn, isOl, isOd, storeAll, bindT, wipeE, backE, plainSlot, walked, items, truth, asInt, outOf, List.getElem?_cons_zero, List.getElem?_cons_succ, List.set_cons_zero, List.set_cons_succ, Option.bind_some, Option.map_some, List.map_cons, List.map_nil, List.all_cons, List.all_nil, Bool.and_true, Bool.true_and, if_true, Bool.false_eq_true, if_false, look_roads hg hR, look_row hr, points_eq hg, lp, lr, List.any_cons, List.any_nil, isTy, Bool.or_false, Bool.not_true, Bool.not_false]; rfl
end WM.Pr
set_option Elab.async false
set_option linter.all false
set_option maxRecDepth 100000
set_option maxHeartbeats 4000000
/-! WmG9: _law_shown, _law_bent; what papers show is what can be reached. -/
namespace WM.Pr
open PySem PySem.W WM

def inR (q : Int × Int) : Bool := decide (-1000000000000 ≤ q.1 ∧ q.1 ≤ 1000000000000) && decide (-1000000000000 ≤ q.2 ∧ q.2 ≤ 1000000000000)
def chkE (x : D) (b : Int × Int) : Bool := match intsOf x with
  | none => false
  | some q => inR q && !DatumOrd.lt b q
theorem p12 : evBin .pow (.int 10) (.int 12) = some (.int 1000000000000) := by decide +kernel
theorem ls_turn1 (G RD RW X AH HD PR BN : D) (x : D) (b : Int × Int) :
    lpF (.tp [8, 9]) b__law_shown_1 [8, 9] (.tuple [x, pt b]) [.d G, .d RD, .d RW, .d X, .d AH, .d HD, .d PR, .d BN, .un, .un] = some (if chkE x b then .nx else .ret .none, [.d G, .d RD, .d RW, .d X, .d AH, .d HD, .d PR, .d BN, .un, .un]) := by
  rw [lpF_eq]
  cases x with
  | tuple xs =>
    by_cases hl : xs.length = 2
    · obtain ⟨a, c, rfl⟩ := len_two hl
      have l2 : evCmp .ne (.int (([a, c] : List D).length : Int)) (.int 2) = some false := by rw [ne_int]; rfl
      cases ha : isInt a with
      | false =>
        have ck : chkE (.tuple [a, c]) b = false := by cases a <;> first | rfl | cases ha
        simp only [b__law_shown_1, denSs, dS_asg, dS_asgO, dS_asgD, dS_asgT, dS_par, dS_app, dS_put, dS_ret, dS_ite, dS_exp, dS_setB, denT, denTs, dE_var, dE_glo, dE_int, dE_str, dE_bl, dE_non, dE_tup, dE_lst, dE_bin, dE_neg, dE_cmp, dE_chn, dE_and, dE_or, dE_nt, dE_ite, dE_call, dE_callB, dE_fn, dE_fn2, dE_max3, dE_isi, dE_idx, dE_cut, dE_step, dE_index, dE_oIdx, dE_oIn, dE_oGet, dE_oLen, dE_oCmp, dE_sortK, dE_lc, dE_lc2, dE_dc, denEs, denO, denIt, rdVar, isOwn, isOl, isOd, storeAll, bindT, wipeE, backE, plainSlot, walked, items, truth, asInt, outOf, List.getElem?_cons_zero, List.getElem?_cons_succ, List.set_cons_zero, List.set_cons_succ, Option.bind_some, Option.map_some, List.map_cons, List.map_nil, List.all_cons, List.all_nil, Bool.and_true, Bool.true_and, if_true, Bool.false_eq_true, if_false, List.any_cons, List.any_nil, isTy, Bool.or_false, Bool.not_true, Bool.not_false, ev_lenT, l2, ip0, ip1, p12, law_in_no a _ _ ha, ck]
      | true =>
        cases a with
        | int i =>
          cases hc : isInt c with
          | false =>
            have ck : chkE (.tuple [.int i, c]) b = false := by cases c <;> first | rfl | cases hc
            simp only [b__law_shown_1, denSs, dS_asg, dS_asgO, dS_asgD, dS_asgT, dS_par, dS_app, dS_put, dS_ret, dS_ite, dS_exp, dS_setB, denT, denTs, dE_var, dE_glo, dE_int, dE_str, dE_bl, dE_non, dE_tup, dE_lst, dE_bin, dE_neg, dE_cmp, dE_chn, dE_and, dE_or, dE_nt, dE_ite, dE_call, dE_callB, dE_fn, dE_fn2, dE_max3, dE_isi, dE_idx, dE_cut, dE_step, dE_index, dE_oIdx, dE_oIn, dE_oGet, dE_oLen, dE_oCmp, dE_sortK, dE_lc, dE_lc2, dE_dc, denEs, denO, denIt, rdVar, isOwn, isOl, isOd, storeAll, bindT, wipeE, backE, plainSlot, walked, items, truth, asInt, outOf, List.getElem?_cons_zero, List.getElem?_cons_succ, List.set_cons_zero, List.set_cons_succ, Option.bind_some, Option.map_some, List.map_cons, List.map_nil, List.all_cons, List.all_nil, Bool.and_true, Bool.true_and, if_true, Bool.false_eq_true, if_false, List.any_cons, List.any_nil, isTy, Bool.or_false, Bool.not_true, Bool.not_false, ev_lenT, l2, ip0, ip1, p12, law_in_eq, law_in_no c _ _ hc, ck]
            cases decide (-1000000000000 ≤ i ∧ i ≤ 1000000000000) <;> rfl
          | true =>
            cases c with
            | int j =>
              have ck : chkE (.tuple [.int i, .int j]) b = (inR (i, j) && !DatumOrd.lt b (i, j)) := rfl
              have gt := ev_gtP (i, j) b
              simp only [b__law_shown_1, denSs, dS_asg, dS_asgO, dS_asgD, dS_asgT, dS_par, dS_app, dS_put, dS_ret, dS_ite, dS_exp, dS_setB, denT, denTs, dE_var, dE_glo, dE_int, dE_str, dE_bl, dE_non, dE_tup, dE_lst, dE_bin, dE_neg, dE_cmp, dE_chn, dE_and, dE_or, dE_nt, dE_ite, dE_call, dE_callB, dE_fn, dE_fn2, dE_max3, dE_isi, dE_idx, dE_cut, dE_step, dE_index, dE_oIdx, dE_oIn, dE_oGet, dE_oLen, dE_oCmp, dE_sortK, dE_lc, dE_lc2, dE_dc, denEs, denO, denIt, rdVar, isOwn, isOl, isOd, storeAll, bindT, wipeE, backE, plainSlot, walked, items, truth, asInt, outOf, List.getElem?_cons_zero, List.getElem?_cons_succ, List.set_cons_zero, List.set_cons_succ, Option.bind_some, Option.map_some, List.map_cons, List.map_nil, List.all_cons, List.all_nil, Bool.and_true, Bool.true_and, if_true, Bool.false_eq_true, if_false, List.any_cons, List.any_nil, isTy, Bool.or_false, Bool.not_true, Bool.not_false, ev_lenT, l2, ip0, ip1, p12, law_in_eq, ck, inR, gt]
              cases decide (-1000000000000 ≤ i ∧ i ≤ 1000000000000) <;> cases decide (-1000000000000 ≤ j ∧ j ≤ 1000000000000) <;> cases DatumOrd.lt b (i, j) <;> rfl
            | _ => cases hc
        | _ => cases ha
    · have l2 : evCmp .ne (.int (xs.length : Int)) (.int 2) = some true := by rw [ne_int]; exact congrArg some (decide_eq_true (by omega))
      have ck : chkE (.tuple xs) b = false := by
        unfold chkE intsOf
        split
        · rfl
        · rename_i e
          split at e
          · rename_i e2; cases e2; exact absurd rfl hl
          · cases e
      simp only [b__law_shown_1, denSs, dS_asg, dS_asgO, dS_asgD, dS_asgT, dS_par, dS_app, dS_put, dS_ret, dS_ite, dS_exp, dS_setB, denT, denTs, dE_var, dE_glo, dE_int, dE_str, dE_bl, dE_non, dE_tup, dE_lst, dE_bin, dE_neg, dE_cmp, dE_chn, dE_and, dE_or, dE_nt, dE_ite, dE_call, dE_callB, dE_fn, dE_fn2, dE_max3, dE_isi, dE_idx, dE_cut, dE_step, dE_index, dE_oIdx, dE_oIn, dE_oGet, dE_oLen, dE_oCmp, dE_sortK, dE_lc, dE_lc2, dE_dc, denEs, denO, denIt, rdVar, isOwn, isOl, isOd, storeAll, bindT, wipeE, backE, plainSlot, walked, items, truth, asInt, outOf, List.getElem?_cons_zero, List.getElem?_cons_succ, List.set_cons_zero, List.set_cons_succ, Option.bind_some, Option.map_some, List.map_cons, List.map_nil, List.all_cons, List.all_nil, Bool.and_true, Bool.true_and, if_true, Bool.false_eq_true, if_false, List.any_cons, List.any_nil, isTy, Bool.or_false, Bool.not_true, Bool.not_false, ev_lenT, l2, ck]
  | _ => simp only [b__law_shown_1, denSs, dS_asg, dS_asgO, dS_asgD, dS_asgT, dS_par, dS_app, dS_put, dS_ret, dS_ite, dS_exp, dS_setB, denT, denTs, dE_var, dE_glo, dE_int, dE_str, dE_bl, dE_non, dE_tup, dE_lst, dE_bin, dE_neg, dE_cmp, dE_chn, dE_and, dE_or, dE_nt, dE_ite, dE_call, dE_callB, dE_fn, dE_fn2, dE_max3, dE_isi, dE_idx, dE_cut, dE_step, dE_index, dE_oIdx, dE_oIn, dE_oGet, dE_oLen, dE_oCmp, dE_sortK, dE_lc, dE_lc2, dE_dc, denEs, denO, denIt, rdVar, isOwn, isOl, isOd, storeAll, bindT, wipeE, backE, plainSlot, walked, items, truth, asInt, outOf, List.getElem?_cons_zero, List.getElem?_cons_succ, List.set_cons_zero, List.set_cons_succ, Option.bind_some, Option.map_some, List.map_cons, List.map_nil, List.all_cons, List.all_nil, Bool.and_true, Bool.true_and, if_true, Bool.false_eq_true, if_false, List.any_cons, List.any_nil, isTy, Bool.or_false, Bool.not_false]; rfl
theorem ls_loop1 (G RD RW X AH HD PR BN : D) : ∀ (xs : List D) (bs : List (Int × Int)), xs.length = bs.length →
    loopGo (lpF (.tp [8, 9]) b__law_shown_1 [8, 9]) (pairUp xs (bs.map pt)) [.d G, .d RD, .d RW, .d X, .d AH, .d HD, .d PR, .d BN, .un, .un] = some (if (xs.zip bs).all fun p => chkE p.1 p.2 then .nx else .ret .none, [.d G, .d RD, .d RW, .d X, .d AH, .d HD, .d PR, .d BN, .un, .un])
  | [], [], _ => rfl
  | x :: xs, b :: bs, hl => by
    rw [List.map_cons, List.zip_cons_cons, List.all_cons]
    simp only [pairUp, loopGo]
    rw [ls_turn1, Option.bind_some]
    cases chkE x b with
    | false => rfl
    | true =>
      show loopGo _ _ _ = _
      rw [ls_loop1 G RD RW X AH HD PR BN xs bs (by simpa using hl)]
      rfl
def Sm2 (d : D) : Prop := ∀ q, intsOf d = some q → inR q = true
def SmR (d : D) : Prop := ∀ xs, d = .tuple xs → ∀ e ∈ xs, Sm2 e
def SmP (d : D) : Prop := ∀ xs, d = .tuple xs → ∀ e ∈ xs, SmR e
theorem chk_none : ∀ (xs : List D) (bs : List (Int × Int)), xs.length = bs.length → rowPairs xs = none → ((xs.zip bs).all fun p => chkE p.1 p.2) = false
  | [], [], _, h => by cases h
  | x :: xs, b :: bs, hl, h => by
    rw [List.zip_cons_cons, List.all_cons]
    simp only [rowPairs] at h
    cases e : intsOf x with
    | none =>
      have : chkE x b = false := by unfold chkE; rw [e]
      rw [this]; rfl
    | some q =>
      rw [e, Option.bind_some] at h
      have : rowPairs xs = none := by
        cases e2 : rowPairs xs with
        | none => rfl
        | some r => rw [e2] at h; cases h
      rw [chk_none xs bs (by simpa using hl) this, Bool.and_false]
theorem chk_eq {g : Pt} (hg : okGround g) {xs : List D} (hs : SmR (.tuple xs)) (hl : xs.length = (spots g).length) (B : PF) : ((xs.zip ((spots g).map B)).all fun p => chkE p.1 p.2) = match rowFn g (.tuple xs) with | none => false | some A => !exceeds g A B := by
  have ro : rowOf (spots g).length (.tuple xs) = rowPairs xs := by
    show (if xs.length = (spots g).length then rowPairs xs else none) = _
    rw [if_pos hl]
  unfold rowFn
  rw [ro]
  cases e : rowPairs xs with
  | none => exact chk_none xs _ (by rw [List.length_map, hl]) e
  | some qs =>
    have ex := rowPairs_some e
    have lq : qs.length = (spots g).length := by rw [ex, List.length_map] at hl; exact hl
    have mq := map_fnOf hg lq
    show _ = !exceeds g (fnOf g qs) B
    have : xs = (spots g).map fun p => pt (fnOf g qs p) := by
      rw [ex]
      conv => lhs; rw [← mq]
      rw [List.map_map]; rfl
    have ir : ∀ p ∈ spots g, inR (fnOf g qs p) = true := fun p hp => hs xs rfl (pt (fnOf g qs p)) (by rw [this]; exact List.mem_map.mpr ⟨p, hp, rfl⟩) _ rfl
    rw [this]
    unfold exceeds
    have z : ∀ ps : List Pt, (∀ p ∈ ps, inR (fnOf g qs p) = true) → (((ps.map fun p => pt (fnOf g qs p)).zip (ps.map B)).all fun p => chkE p.1 p.2) = !ps.any fun p => DatumOrd.lt (B p) (fnOf g qs p) := by
      intro ps
      induction ps with
      | nil => intro _; rfl
      | cons p ps ih =>
        intro hp
        rw [List.map_cons, List.map_cons, List.zip_cons_cons, List.all_cons, List.any_cons, ih fun p hq => hp p (List.mem_cons_of_mem _ hq)]
        have : chkE (pt (fnOf g qs p)) (B p) = (inR (fnOf g qs p) && !DatumOrd.lt (B p) (fnOf g qs p)) := rfl
        rw [this, hp p List.mem_cons_self]
        cases DatumOrd.lt (B p) (fnOf g qs p) <;> rfl
    exact z _ ir
theorem minO_comm {α : Type} [DecidableEq α] [DatumOrd α] (a b : α) : minO a [b] = minO b [a] := by
  refine (minO_least a [b]).one ((minO_least b [a]).iff fun x => ?_)
  simp only [List.mem_cons, List.not_mem_nil, or_false]
  exact Or.comm
theorem maxO_comm {α : Type} [DecidableEq α] [DatumOrd α] (a b : α) : maxO a [b] = maxO b [a] := by
  show (if DatumOrd.lt a b = true then b else a) = (if DatumOrd.lt b a = true then a else b)
  cases h1 : DatumOrd.lt a b with
  | true => rw [ol_asym h1]; rfl
  | false =>
    cases h2 : DatumOrd.lt b a with
    | true => rfl
    | false => exact ol_tot h1 h2
theorem roadOf_comm (p q : Pt) : roadOf p q = roadOf q p := by unfold roadOf; rw [minO_comm, maxO_comm]
theorem nextL_eq (g : Pt) (R : List Rd) (h : Pt) (o : Option PF) : nextL g R h o = nextA g R h o := by
  cases o with
  | none => rfl
  | some A => exact funext fun p => bndL_eq g R h A p fun o => roadOf_comm o p
theorem law_bounds {g : Pt} (hg : okGround g) (R : List Rd) (h : Pt) (o : Option PF) : F__law_bounds [pt g, rds R, pt h, aheadT g o] = some (linT g (nextA g R h o)) := by
  rw [law_bounds_eq hg R o, nextL_eq]
/-- whether a row goes on -/
def rowGo (g : Pt) (d : D) (B : PF) : Bool := match rowFn g d with
  | none => false
  | some A => !exceeds g A B
theorem ls_turn2 {g : Pt} (hg : okGround g) (R : List Rd) (RW X : D) (h : Pt) (o : Option PF) (d : D) (hs : SmR d) :
    ∃ ρ', lpF (.tp [5, 6]) b__law_shown_2 [5, 6, 7, 8, 9] (.tuple [pt h, d]) [.d (pt g), .d (rds R), .d RW, .d X, .d (aheadT g o), .un, .un, .un, .un, .un] = some (if rowGo g d (nextA g R h o) then .nx else .ret .none, ρ') ∧ (rowGo g d (nextA g R h o) = true → ρ' = [.d (pt g), .d (rds R), .d RW, .d X, .d d, .un, .un, .un, .un, .un]) := by
  have b := law_bounds hg R h o
  unfold linT at b
  have lb : evFn .len (.tuple ((spots g).map fun p => pt (nextA g R h o p))) = some (.int (spots g).length) := by rw [ev_lenT, List.length_map]
  rw [lpF_eq]
  cases d with
  | tuple xs =>
    by_cases hl : xs.length = (spots g).length
    · have c : evCmp .ne (.int (xs.length : Int)) (.int ((spots g).length : Int)) = some false := by rw [ne_int, hl]; simp
      have l := ls_loop1 (pt g) (rds R) RW X (aheadT g o) (pt h) (.tuple xs) (.tuple ((spots g).map fun p => pt (nextA g R h o p))) xs ((spots g).map (nextA g R h o)) (by rw [List.length_map, hl])
      rw [chk_eq hg hs hl, List.map_map] at l
      have l' : loopGo (lpF (.tp [8, 9]) b__law_shown_1 [8, 9]) (pairUp xs ((spots g).map fun p => pt (nextA g R h o p))) [.d (pt g), .d (rds R), .d RW, .d X, .d (aheadT g o), .d (pt h), .d (.tuple xs), .d (.tuple ((spots g).map fun p => pt (nextA g R h o p))), .un, .un] = some (if rowGo g (.tuple xs) (nextA g R h o) then .nx else .ret .none, [.d (pt g), .d (rds R), .d RW, .d X, .d (aheadT g o), .d (pt h), .d (.tuple xs), .d (.tuple ((spots g).map fun p => pt (nextA g R h o p))), .un, .un]) := l
      cases hx : rowGo g (.tuple xs) (nextA g R h o) with
      | true =>
        rw [hx] at l'
        exact ⟨_, by simp only [b__law_shown_2, denSs, dS_asg, dS_asgO, dS_asgD, dS_asgT, dS_par, dS_app, dS_put, dS_ret, dS_ite, dS_exp, dS_setB, denT, denTs, dE_var, dE_glo, dE_int, dE_str, dE_bl, dE_non, dE_tup, dE_lst, dE_bin, dE_neg, dE_cmp, dE_chn, dE_and, dE_or, dE_nt, dE_ite, dE_call, dE_callB, dE_fn, dE_fn2, dE_max3, dE_isi, dE_idx, dE_cut, dE_step, dE_index, dE_oIdx, dE_oIn, dE_oGet, dE_oLen, dE_oCmp, dE_sortK, dE_lc, dE_lc2, dE_dc, denEs, denO, denIt, rdVar, isOwn, isOl, isOd, storeAll, bindT, wipeE, backE, plainSlot, walked, items, truth, asInt, outOf, List.getElem?_cons_zero, List.getElem?_cons_succ, List.set_cons_zero, List.set_cons_succ, Option.bind_some, Option.map_some, List.map_cons, List.map_nil, List.all_cons, List.all_nil, Bool.and_true, Bool.true_and, if_true, Bool.false_eq_true, if_false, List.any_cons, List.any_nil, isTy, Bool.or_false, Bool.not_true, b, lb, ev_lenT, c, dS_loop, l'], fun _ => rfl⟩
      | false =>
        rw [hx] at l'
        exact ⟨_, by simp only [b__law_shown_2, denSs, dS_asg, dS_asgO, dS_asgD, dS_asgT, dS_par, dS_app, dS_put, dS_ret, dS_ite, dS_exp, dS_setB, denT, denTs, dE_var, dE_glo, dE_int, dE_str, dE_bl, dE_non, dE_tup, dE_lst, dE_bin, dE_neg, dE_cmp, dE_chn, dE_and, dE_or, dE_nt, dE_ite, dE_call, dE_callB, dE_fn, dE_fn2, dE_max3, dE_isi, dE_idx, dE_cut, dE_step, dE_index, dE_oIdx, dE_oIn, dE_oGet, dE_oLen, dE_oCmp, dE_sortK, dE_lc, dE_lc2, dE_dc, denEs, denO, denIt, rdVar, isOwn, isOl, isOd, storeAll, bindT, wipeE, backE, plainSlot, walked, items, truth, asInt, outOf, List.getElem?_cons_zero, List.getElem?_cons_succ, List.set_cons_zero, List.set_cons_succ, Option.bind_some, Option.map_some, List.map_cons, List.map_nil, List.all_cons, List.all_nil, Bool.and_true, Bool.true_and, if_true, Bool.false_eq_true, if_false, List.any_cons, List.any_nil, isTy, Bool.or_false, Bool.not_true, b, lb, ev_lenT, c, dS_loop, l']; rfl, fun z => by cases z⟩
    · have c : evCmp .ne (.int (xs.length : Int)) (.int ((spots g).length : Int)) = some true := by rw [ne_int]; exact congrArg some (decide_eq_true (by omega))
      have rg : rowGo g (.tuple xs) (nextA g R h o) = false := by
        unfold rowGo rowFn
        have : rowOf (spots g).length (.tuple xs) = none := by
          show (if xs.length = (spots g).length then rowPairs xs else none) = _
          rw [if_neg hl]
        rw [this]; rfl
      rw [rg]
      exact ⟨_, by simp only [b__law_shown_2, denSs, dS_asg, dS_asgO, dS_asgD, dS_asgT, dS_par, dS_app, dS_put, dS_ret, dS_ite, dS_exp, dS_setB, denT, denTs, dE_var, dE_glo, dE_int, dE_str, dE_bl, dE_non, dE_tup, dE_lst, dE_bin, dE_neg, dE_cmp, dE_chn, dE_and, dE_or, dE_nt, dE_ite, dE_call, dE_callB, dE_fn, dE_fn2, dE_max3, dE_isi, dE_idx, dE_cut, dE_step, dE_index, dE_oIdx, dE_oIn, dE_oGet, dE_oLen, dE_oCmp, dE_sortK, dE_lc, dE_lc2, dE_dc, denEs, denO, denIt, rdVar, isOwn, isOl, isOd, storeAll, bindT, wipeE, backE, plainSlot, walked, items, truth, asInt, outOf, List.getElem?_cons_zero, List.getElem?_cons_succ, List.set_cons_zero, List.set_cons_succ, Option.bind_some, Option.map_some, List.map_cons, List.map_nil, List.all_cons, List.all_nil, Bool.and_true, Bool.true_and, if_true, Bool.false_eq_true, if_false, List.any_cons, List.any_nil, isTy, Bool.or_false, Bool.not_true, b, lb, ev_lenT, c]; rfl, fun z => by cases z⟩
  | _ => exact ⟨_, by simp only [b__law_shown_2, denSs, dS_asg, dS_asgO, dS_asgD, dS_asgT, dS_par, dS_app, dS_put, dS_ret, dS_ite, dS_exp, dS_setB, denT, denTs, dE_var, dE_glo, dE_int, dE_str, dE_bl, dE_non, dE_tup, dE_lst, dE_bin, dE_neg, dE_cmp, dE_chn, dE_and, dE_or, dE_nt, dE_ite, dE_call, dE_callB, dE_fn, dE_fn2, dE_max3, dE_isi, dE_idx, dE_cut, dE_step, dE_index, dE_oIdx, dE_oIn, dE_oGet, dE_oLen, dE_oCmp, dE_sortK, dE_lc, dE_lc2, dE_dc, denEs, denO, denIt, rdVar, isOwn, isOl, isOd, storeAll, bindT, wipeE, backE, plainSlot, walked, items, truth, asInt, outOf, List.getElem?_cons_zero, List.getElem?_cons_succ, List.set_cons_zero, List.set_cons_succ, Option.bind_some, Option.map_some, List.map_cons, List.map_nil, List.all_cons, List.all_nil, Bool.and_true, Bool.true_and, if_true, Bool.false_eq_true, if_false, List.any_cons, List.any_nil, isTy, Bool.or_false, Bool.not_false, b]; rfl, fun z => by cases z⟩
theorem ls_loop2 {g : Pt} (hg : okGround g) (R : List Rd) (RW X : D) : ∀ (hs : List Pt) (ds : List D) (o : Option PF), hs.length = ds.length → (∀ d ∈ ds, SmR d) →
    (∃ o', shownM g R o hs ds = some o' ∧ loopGo (lpF (.tp [5, 6]) b__law_shown_2 [5, 6, 7, 8, 9]) (pairUp (hs.map pt) ds) [.d (pt g), .d (rds R), .d RW, .d X, .d (aheadT g o), .un, .un, .un, .un, .un] = some (.nx, [.d (pt g), .d (rds R), .d RW, .d X, .d (aheadT g o'), .un, .un, .un, .un, .un])) ∨
    (∃ ρ', shownM g R o hs ds = none ∧ loopGo (lpF (.tp [5, 6]) b__law_shown_2 [5, 6, 7, 8, 9]) (pairUp (hs.map pt) ds) [.d (pt g), .d (rds R), .d RW, .d X, .d (aheadT g o), .un, .un, .un, .un, .un] = some (.ret .none, ρ'))
  | [], [], o, _, _ => .inl ⟨o, rfl, rfl⟩
  | h :: hs, d :: ds, o, hl, hd => by
    obtain ⟨ρ', t, k⟩ := ls_turn2 hg R RW X h o d (hd d List.mem_cons_self)
    rw [List.map_cons]
    simp only [shownM, pairUp, loopGo]
    rw [t, Option.bind_some]
    have rg : rowGo g d (nextA g R h o) = match rowFn g d with | none => false | some A => !exceeds g A (nextA g R h o) := rfl
    cases hA : rowFn g d with
    | none =>
      have z : rowGo g d (nextA g R h o) = false := by rw [rg, hA]
      rw [z]
      exact .inr ⟨_, rfl, rfl⟩
    | some A =>
      have e := rowFn_some hg hA
      rw [Option.bind_some]
      cases hx : exceeds g A (nextA g R h o) with
      | true =>
        have z : rowGo g d (nextA g R h o) = false := by rw [rg, hA]; show (!exceeds g A (nextA g R h o)) = false; rw [hx]; rfl
        rw [z]
        exact .inr ⟨_, rfl, rfl⟩
      | false =>
        have z : rowGo g d (nextA g R h o) = true := by rw [rg, hA]; show (!exceeds g A (nextA g R h o)) = true; rw [hx]; rfl
        rw [k z, z, e]
        exact ls_loop2 hg R RW X hs ds (some A) (by simpa using hl) fun z hz => hd z (List.mem_cons_of_mem _ hz)
theorem law_shown_eq {g : Pt} {R : List Rd} {row : List Pt} (hg : okGround g) (hr : okRow g row) {x : D} (hx : SmP x) : F__law_shown [pt g, rds R, pts row, x] = some (showD g R row x) := by
  have e : F__law_shown [pt g, rds R, pts row, x] = (denSs il__law_shown [.d (pt g), .d (rds R), .d (pts row), .d x, .un, .un, .un, .un, .un, .un]).bind fun (o, _) => some (outOf o) := rfl
  have lr : evFn .len (pts row) = some (.int row.length) := by rw [ev_lenT, List.length_map]
  rw [e]
  cases x with
  | tuple ds =>
    by_cases hl : ds.length = row.length
    · have c : evCmp .ne (.int (ds.length : Int)) (.int (row.length : Int)) = some false := by rw [ne_int, hl]; simp
      have sh : showD g R row (.tuple ds) = endD g (shownM g R none row ds) := by
        show (if ds.length = row.length then _ else _) = _
        rw [if_pos hl]
      rw [sh]
      rcases ls_loop2 hg R (pts row) (.tuple ds) row ds none hl.symm (hx ds rfl) with ⟨o', e1, l2⟩ | ⟨ρ', e1, l2⟩
      · obtain ⟨A, rfl⟩ := shown_some e1 hl.symm (by intro z; rw [z] at hr; exact absurd hr.1 (by simp))
        have ml : evFn .min (aheadT g (some A)) = some (pt (minOver g A)) := min_lin hg A
        have l2' : loopGo (lpF (.tp [5, 6]) b__law_shown_2 [5, 6, 7, 8, 9]) (pairUp (row.map pt) ds) [.d (pt g), .d (rds R), .d (pts row), .d (.tuple ds), .d .none, .un, .un, .un, .un, .un] = _ := l2
        rw [e1]
        simp only [il__law_shown, denSs, dS_asg, dS_asgO, dS_asgD, dS_asgT, dS_par, dS_app, dS_put, dS_ret, dS_ite, dS_exp, dS_setB, denT, denTs, dE_var, dE_glo, dE_int, dE_str, dE_bl, dE_non, dE_tup, dE_lst, dE_bin, dE_neg, dE_cmp, dE_chn, dE_and, dE_or, dE_nt, dE_ite, dE_call, dE_callB, dE_fn, dE_fn2, dE_max3, dE_isi, dE_idx, dE_cut, dE_step, dE_index, dE_oIdx, dE_oIn, dE_oGet, dE_oLen, dE_oCmp, dE_sortK, dE_lc, dE_lc2, dE_dc, denEs, denO, denIt, rdVar, isOwn, isOl, isOd, storeAll, bindT, wipeE, backE, plainSlot, walked, items, truth, asInt, outOf, List.getElem?_cons_zero, List.getElem?_cons_succ, List.set_cons_zero, List.set_cons_succ, Option.bind_some, Option.map_some, List.map_cons, List.map_nil, List.all_cons, List.all_nil, Bool.and_true, Bool.true_and, if_true, Bool.false_eq_true, if_false, lr, List.any_cons, List.any_nil, isTy, Bool.or_false, Bool.not_true, Bool.not_false, ev_lenT, c, endD, dS_loop, l2', ml]
      · have l2' : loopGo (lpF (.tp [5, 6]) b__law_shown_2 [5, 6, 7, 8, 9]) (pairUp (row.map pt) ds) [.d (pt g), .d (rds R), .d (pts row), .d (.tuple ds), .d .none, .un, .un, .un, .un, .un] = _ := l2
        rw [e1]
        simp only [il__law_shown, denSs, dS_asg, dS_asgO, dS_asgD, dS_asgT, dS_par, dS_app, dS_put, dS_ret, dS_ite, dS_exp, dS_setB, denT, denTs, dE_var, dE_glo, dE_int, dE_str, dE_bl, dE_non, dE_tup, dE_lst, dE_bin, dE_neg, dE_cmp, dE_chn, dE_and, dE_or, dE_nt, dE_ite, dE_call, dE_callB, dE_fn, dE_fn2, dE_max3, dE_isi, dE_idx, dE_cut, dE_step, dE_index, dE_oIdx, dE_oIn, dE_oGet, dE_oLen, dE_oCmp, dE_sortK, dE_lc, dE_lc2, dE_dc, denEs, denO, denIt, rdVar, isOwn, isOl, isOd, storeAll, bindT, wipeE, backE, plainSlot, walked, items, truth, asInt, outOf, List.getElem?_cons_zero, List.getElem?_cons_succ, List.set_cons_zero, List.set_cons_succ, Option.bind_some, Option.map_some, List.map_cons, List.map_nil, List.all_cons, List.all_nil, Bool.and_true, Bool.true_and, if_true, Bool.false_eq_true, if_false, lr, List.any_cons, List.any_nil, isTy, Bool.or_false, Bool.not_true, Bool.not_false, ev_lenT, c, endD, dS_loop, l2']
    · have c : evCmp .ne (.int (ds.length : Int)) (.int (row.length : Int)) = some true := by rw [ne_int]; exact congrArg some (decide_eq_true (by omega))
      have sh : showD g R row (.tuple ds) = .none := by
        show (if ds.length = row.length then _ else _) = _
        rw [if_neg hl]
      rw [sh]
      simp only [il__law_shown, denSs, dS_asg, dS_asgO, dS_asgD, dS_asgT, dS_par, dS_app, dS_put, dS_ret, dS_ite, dS_exp, dS_setB, denT, denTs, dE_var, dE_glo, dE_int, dE_str, dE_bl, dE_non, dE_tup, dE_lst, dE_bin, dE_neg, dE_cmp, dE_chn, dE_and, dE_or, dE_nt, dE_ite, dE_call, dE_callB, dE_fn, dE_fn2, dE_max3, dE_isi, dE_idx, dE_cut, dE_step, dE_index, dE_oIdx, dE_oIn, dE_oGet, dE_oLen, dE_oCmp, dE_sortK, dE_lc, dE_lc2, dE_dc, denEs, denO, denIt, rdVar, isOwn, isOl, isOd, storeAll, bindT, wipeE, backE, plainSlot, walked, items, truth, asInt, outOf, List.getElem?_cons_zero, List.getElem?_cons_succ, List.set_cons_zero, List.set_cons_succ, Option.bind_some, Option.map_some, List.map_cons, List.map_nil, List.all_cons, List.all_nil, Bool.and_true, Bool.true_and, if_true, Bool.false_eq_true, if_false, lr, List.any_cons, List.any_nil, isTy, Bool.or_false, Bool.not_true, Bool.not_false, ev_lenT, c]
  | _ => simp only [il__law_shown, denSs, dS_asg, dS_asgO, dS_asgD, dS_asgT, dS_par, dS_app, dS_put, dS_ret, dS_ite, dS_exp, dS_setB, denT, denTs, dE_var, dE_glo, dE_int, dE_str, dE_bl, dE_non, dE_tup, dE_lst, dE_bin, dE_neg, dE_cmp, dE_chn, dE_and, dE_or, dE_nt, dE_ite, dE_call, dE_callB, dE_fn, dE_fn2, dE_max3, dE_isi, dE_idx, dE_cut, dE_step, dE_index, dE_oIdx, dE_oIn, dE_oGet, dE_oLen, dE_oCmp, dE_sortK, dE_lc, dE_lc2, dE_dc, denEs, denO, denIt, rdVar, isOwn, isOl, isOd, storeAll, bindT, wipeE, backE, plainSlot, walked, items, truth, asInt, outOf, List.getElem?_cons_zero, List.getElem?_cons_succ, List.set_cons_zero, List.set_cons_succ, Option.bind_some, Option.map_some, List.map_cons, List.map_nil, List.all_cons, List.all_nil, Bool.and_true, Bool.true_and, if_true, Bool.false_eq_true, if_false, lr, List.any_cons, List.any_nil, isTy, Bool.or_false, Bool.not_true, Bool.not_false]; rfl
/-! ### papers with something otherwise -/
theorem cutL_mem {β : Type} {xs : List β} {lo hi : Option Int} {x : β} (h : x ∈ cutL xs lo hi) : x ∈ xs := List.mem_of_mem_drop (List.mem_of_mem_take h)
theorem cutL_len {β : Type} (xs : List β) (lo hi : Option Int) : (cutL xs lo hi).length ≤ xs.length := by
  unfold cutL
  rw [List.length_take, List.length_drop]; omega
theorem idx_memL {xs : List D} {k : Int} (h0 : 0 ≤ k) (h1 : k < xs.length) (h2 : xs.length ≤ 1000000) : ∃ s, evIdx (.list xs) (.int k) = some s ∧ s ∈ xs := by
  have sm : small k = true := decide_eq_true (by omega)
  have hk : k.toNat < xs.length := by omega
  refine ⟨xs[k.toNat], ?_, List.getElem_mem hk⟩
  rw [idx_L, sm, if_pos rfl]
  unfold ixAt
  rw [if_pos h0, List.getElem?_eq_getElem hk]
theorem idx_memT {xs : List D} {k : Int} (h0 : 0 ≤ k) (h1 : k < xs.length) (h2 : xs.length ≤ 1000000) : ∃ s, evIdx (.tuple xs) (.int k) = some s ∧ s ∈ xs := idx_memL h0 h1 h2
theorem ev_addT {xs ys : List D} (h : xs.length + ys.length ≤ 1000000) : evBin .add (.tuple xs) (.tuple ys) = some (.tuple (xs ++ ys)) := by
  show (if xs.length + ys.length ≤ 1000000 then some (PyData.tuple (xs ++ ys)) else none) = _
  rw [if_pos h]
def Bd (k : Int) (q : Int × Int) : Prop := 0 ≤ q.1 ∧ q.1 ≤ k ∧ 0 ≤ q.2 ∧ q.2 ≤ k
theorem sm2_pt {q : Int × Int} (h : inR q = true) : Sm2 (pt q) := fun r e => by
  have : r = q := by
    have e' : some q = some r := e
    exact (Option.some.inj e').symm
  rw [this]; exact h
theorem inR_of {a b : Int} (h1 : -1000000000000 ≤ a) (h2 : a ≤ 1000000000000) (h3 : -1000000000000 ≤ b) (h4 : b ≤ 1000000000000) : inR (a, b) = true := by
  unfold inR
  rw [decide_eq_true ⟨h1, h2⟩, decide_eq_true ⟨h3, h4⟩]; rfl
theorem law_bent_eq {n : Nat} {b : List D} {rows : List (List (Int × Int))} (h : BagOk (n + 4) b) (hr : rows ≠ []) (hl : rows.length ≤ 10) (hd : ∀ ps ∈ rows, ps ≠ [] ∧ ps.length ≤ 25 ∧ ∀ q ∈ ps, Bd 1000 q) :
    ∃ x b', F__law_bent b [.tuple (rows.map fun ps => .tuple (ps.map pt))] = some (x, b') ∧ SmP x ∧ BagOk n b' := by
  have lr : 0 < rows.length := List.length_pos_iff.mpr hr
  obtain ⟨at_, b1, e1, a1, c1, k1⟩ := law_take (n := n + 3) (many := rows.length) h (by omega) (by omega)
  obtain ⟨rw_, i1, m1⟩ := idx_memT (xs := rows.map fun ps => PyData.tuple (ps.map pt)) a1 (by rw [List.length_map]; exact c1) (by rw [List.length_map]; omega)
  obtain ⟨ps, mp, rfl⟩ := List.mem_map.mp m1
  obtain ⟨pn, pl, pb⟩ := hd ps mp
  have lp : 0 < ps.length := List.length_pos_iff.mpr pn
  obtain ⟨k_, b2, e2, a2, c2, k2⟩ := law_take (n := n + 2) (many := ps.length) k1 (by omega) (by omega)
  obtain ⟨pq, i2, m2⟩ := idx_memT (xs := ps.map pt) a2 (by rw [List.length_map]; exact c2) (by rw [List.length_map]; omega)
  obtain ⟨q, mq, rfl⟩ := List.mem_map.mp m2
  obtain ⟨q1, q2, q3, q4⟩ := pb q mq
  obtain ⟨r7, b3, e3, a3, c3, k3⟩ := law_take (n := n + 1) (many := 7) k2 (by omega) (by omega)
  obtain ⟨r8, b4, e4, a4, c4, k4⟩ := law_take (n := n) (many := 8) k3 (by omega) (by omega)
  obtain ⟨s7, i3, m3⟩ := idx_memL (xs := [.tuple [.int (q.1 + 1), .int q.2], .tuple [.int q.1, .int (q.2 + 1)], .tuple [.int (q.1 - 1), .int (q.2 + 99)], .tuple [.int q.1, .int (q.2 - 1)], .tuple [.int q.1, .bool true], .tuple [.int q.1], .none]) a3 (by show r7 < 7; exact c3) (by show 7 ≤ 1000000; decide)
  have sm7 : Sm2 s7 := by
    simp only [List.mem_cons, List.not_mem_nil, or_false] at m3
    rcases m3 with rfl | rfl | rfl | rfl | rfl | rfl | rfl
    · exact sm2_pt (q := (q.1 + 1, q.2)) (inR_of (by omega) (by omega) (by omega) (by omega))
    · exact sm2_pt (q := (q.1, q.2 + 1)) (inR_of (by omega) (by omega) (by omega) (by omega))
    · exact sm2_pt (q := (q.1 - 1, q.2 + 99)) (inR_of (by omega) (by omega) (by omega) (by omega))
    · exact sm2_pt (q := (q.1, q.2 - 1)) (inR_of (by omega) (by omega) (by omega) (by omega))
    · intro r e; cases e
    · intro r e; cases e
    · intro r e; cases e
  have smq : ∀ e ∈ ps.map pt, Sm2 e := fun e he => by
    obtain ⟨z, hz, rfl⟩ := List.mem_map.mp he
    obtain ⟨z1, z2, z3, z4⟩ := pb z hz
    exact sm2_pt (q := z) (inR_of (by omega) (by omega) (by omega) (by omega))
  have smr : ∀ d ∈ rows.map fun ps => PyData.tuple (ps.map pt), SmR d := fun d hd' xs e z hz => by
    obtain ⟨ws, hw, rfl⟩ := List.mem_map.mp hd'
    cases e
    obtain ⟨y, hy, rfl⟩ := List.mem_map.mp hz
    obtain ⟨z1, z2, z3, z4⟩ := (hd ws hw).2.2 y hy
    exact sm2_pt (q := y) (inR_of (by omega) (by omega) (by omega) (by omega))
  generalize hrows : (rows.map fun ps => PyData.tuple (ps.map pt)) = RS at i1 m1 smr
  have lRS : RS.length = rows.length := by rw [← hrows, List.length_map]
  generalize hps : ps.map pt = PS at i1 i2 m2 smq
  have lPS : PS.length = ps.length := by rw [← hps, List.length_map]
  have sk : small k_ = true := decide_eq_true (by omega)
  have sk1 : small (k_ + 1) = true := decide_eq_true (by omega)
  have sa : small at_ = true := decide_eq_true (by omega)
  have sa1 : small (at_ + 1) = true := decide_eq_true (by omega)
  have sm1 : small (-1) = true := by decide
  have cu : ∀ (xs : List D) lo hi, evCut (.tuple xs) lo hi = some (.tuple (cutL xs lo hi)) := fun _ _ _ => rfl
  have lc1 := cutL_len PS none (some k_)
  have lc2 := cutL_len PS (some (k_ + 1)) none
  have lc3 := cutL_len RS none (some at_)
  have lc4 := cutL_len RS (some (at_ + 1)) none
  have lc5 := cutL_len RS (some (-1)) none
  have f1 := ev_addT (xs := cutL PS none (some k_)) (ys := [s7]) (by simp; omega)
  have f2 := ev_addT (xs := cutL PS none (some k_) ++ [s7]) (ys := cutL PS (some (k_ + 1)) none) (by simp; omega)
  have f3 := fun y : D => ev_addT (xs := cutL RS none (some at_)) (ys := [y]) (by simp; omega)
  have f4 := fun y : D => ev_addT (xs := cutL RS none (some at_) ++ [y]) (ys := cutL RS (some (at_ + 1)) none) (by simp; omega)
  have f5 := ev_addT (xs := cutL RS none (some at_)) (ys := cutL RS (some (at_ + 1)) none) (by omega)
  have f6 := ev_addT (xs := RS) (ys := cutL RS (some (-1)) none) (by omega)
  have f7 : ∀ a b c d e : D, evBin .add (.list [a, b, c]) (.list [d, e]) = some (.list [a, b, c, d, e]) := fun _ _ _ _ _ => rfl
  have st : evStep (.tuple PS) (-1) = some (.tuple PS.reverse) := rfl
  have ll : ∀ xs : List D, evFn .list (.tuple xs) = some (.list xs) := fun _ => rfl
  have len1 : evFn .len (.tuple RS) = some (.int rows.length) := by rw [ev_lenT, lRS]
  have len2 : evFn .len (.tuple PS) = some (.int ps.length) := by rw [ev_lenT, lPS]
  obtain ⟨j, ij, mj⟩ : ∃ j : Int, evIdx (.list [.int 0, .int 0, .int 0, .int 0, .int 1, .int 2, .int 3, .int 4]) (.int r8) = some (.int j) ∧ 0 ≤ j ∧ j < 5 := by
    have : r8 = 0 ∨ r8 = 1 ∨ r8 = 2 ∨ r8 = 3 ∨ r8 = 4 ∨ r8 = 5 ∨ r8 = 6 ∨ r8 = 7 := by omega
    rcases this with rfl | rfl | rfl | rfl | rfl | rfl | rfl | rfl
    · exact ⟨0, rfl, by decide⟩
    · exact ⟨0, rfl, by decide⟩
    · exact ⟨0, rfl, by decide⟩
    · exact ⟨0, rfl, by decide⟩
    · exact ⟨1, rfl, by decide⟩
    · exact ⟨2, rfl, by decide⟩
    · exact ⟨3, rfl, by decide⟩
    · exact ⟨4, rfl, by decide⟩
  obtain ⟨x, ix, mx⟩ := idx_memL (xs := [.tuple (cutL RS none (some at_) ++ [.tuple (cutL PS none (some k_) ++ [s7] ++ cutL PS (some (k_ + 1)) none)] ++ cutL RS (some (at_ + 1)) none), .tuple (cutL RS none (some at_) ++ cutL RS (some (at_ + 1)) none), .tuple (RS ++ cutL RS (some (-1)) none), .tuple (cutL RS none (some at_) ++ [.tuple PS.reverse] ++ cutL RS (some (at_ + 1)) none), .tuple (cutL RS none (some at_) ++ [.list (cutL PS none (some k_) ++ [s7] ++ cutL PS (some (k_ + 1)) none)] ++ cutL RS (some (at_ + 1)) none)]) mj.1 (by show j < 5; exact mj.2) (by show 5 ≤ 1000000; decide)
  refine ⟨x, b4, ?_, ?_, k4⟩
  · have e : F__law_bent b [.tuple RS] = (denSs il__law_bent [.bo b, .d (.tuple RS), .un, .un, .un, .un, .un, .un, .un]).bind fun (o, ρ) => (lentOf ρ[0]?).bind fun xs' => some (outOf o, xs') := rfl
    rw [e]
    simp only [il__law_bent, denSs, dS_asg, dS_asgO, dS_asgD, dS_asgT, dS_par, dS_app, dS_put, dS_ret, dS_ite, dS_exp, dS_setB, denT, denTs, dE_var, dE_glo, dE_int, dE_str, dE_bl, dE_non, dE_tup, dE_lst, dE_bin, dE_neg, dE_cmp, dE_chn, dE_and, dE_or, dE_nt, dE_ite, dE_call, dE_callB, dE_fn, dE_fn2, dE_max3, dE_isi, dE_idx, dE_cut, dE_step, dE_index, dE_oIdx, dE_oIn, dE_oGet, dE_oLen, dE_oCmp, dE_sortK, dE_lc, dE_lc2, dE_dc, denEs, denO, denIt, rdVar, isOwn, isOl, isOd, storeAll, bindT, wipeE, backE, plainSlot, walked, items, truth, asInt, outOf, List.getElem?_cons_zero, List.getElem?_cons_succ, List.set_cons_zero, List.set_cons_succ, Option.bind_some, Option.map_some, List.map_cons, List.map_nil, List.all_cons, List.all_nil, Bool.and_true, Bool.true_and, if_true, Bool.false_eq_true, if_false, len1, e1, i1, len2, e2, i2, ev_add, ev_sub, i3, e3, e4, sk, sk1, sa, sa1, sm1, cu, f1, f2, f3, f4, f5, f6, f7, st, ll, ij, ix, lentOf]
  · have smF : SmR (.tuple (cutL PS none (some k_) ++ [s7] ++ cutL PS (some (k_ + 1)) none)) := by
      intro xs e z hz
      cases e
      rcases List.mem_append.mp hz with hz | hz
      · rcases List.mem_append.mp hz with hz | hz
        · exact smq z (cutL_mem hz)
        · rw [List.mem_singleton.mp hz]; exact sm7
      · exact smq z (cutL_mem hz)
    have smV : SmR (.tuple PS.reverse) := by
      intro xs e z hz
      cases e
      exact smq z (List.mem_reverse.mp hz)
    have mid : ∀ y : D, SmR y → SmP (.tuple (cutL RS none (some at_) ++ [y] ++ cutL RS (some (at_ + 1)) none)) := by
      intro y hy xs e z hz
      cases e
      rcases List.mem_append.mp hz with hz | hz
      · rcases List.mem_append.mp hz with hz | hz
        · exact smr z (cutL_mem hz)
        · rw [List.mem_singleton.mp hz]; exact hy
      · exact smr z (cutL_mem hz)
    simp only [List.mem_cons, List.not_mem_nil, or_false] at mx
    rcases mx with rfl | rfl | rfl | rfl | rfl
    · exact mid _ smF
    · intro xs e z hz
      cases e
      rcases List.mem_append.mp hz with hz | hz
      · exact smr z (cutL_mem hz)
      · exact smr z (cutL_mem hz)
    · intro xs e z hz
      cases e
      rcases List.mem_append.mp hz with hz | hz
      · exact smr z hz
      · exact smr z (cutL_mem hz)
    · exact mid _ smV
    · exact mid _ fun xs e => by cases e
end WM.Pr
set_option Elab.async false
set_option linter.all false
set_option maxRecDepth 100000
set_option maxHeartbeats 4000000
/-! WmG10: the paper's numbers are what can be reached. -/
namespace WM.Pr
open PySem PySem.W WM

theorem mem_steps {g : Pt} {R : List Rd} {p : Pt} {s : Pt × Int} : s ∈ stepsM g R p ↔ s.1 ∈ spots g ∧ ((s.1 = p ∧ s.2 = 0) ∨ (s.1 ≠ p ∧ dist p s.1 = 1 ∧ s.2 = if roadOf p s.1 ∈ R then 0 else 1)) := by
  unfold stepsM
  rw [List.mem_flatMap]
  constructor
  · rintro ⟨o, ho, h⟩
    unfold stepF at h
    split at h
    · rename_i e
      rw [List.mem_singleton] at h
      subst h
      exact ⟨ho, .inl ⟨e, rfl⟩⟩
    · rename_i e
      split at h
      · rename_i e2
        rw [List.mem_singleton] at h
        subst h
        exact ⟨ho, .inr ⟨e, e2, rfl⟩⟩
      · cases h
  · rintro ⟨ho, h⟩
    refine ⟨s.1, ho, ?_⟩
    unfold stepF
    rcases h with ⟨e, e2⟩ | ⟨e, e2, e3⟩
    · rw [if_pos e, List.mem_singleton, ← e2]
    · rw [if_neg e, if_pos e2, List.mem_singleton, ← e3]
theorem steps_sym {g : Pt} {R : List Rd} {p o : Pt} {m : Int} (hp : p ∈ spots g) (h : (o, m) ∈ stepsM g R p) : (p, m) ∈ stepsM g R o := by
  obtain ⟨h1, h2⟩ := mem_steps.mp h
  refine mem_steps.mpr ⟨hp, ?_⟩
  rcases h2 with ⟨e, e2⟩ | ⟨e, e2, e3⟩
  · exact .inl ⟨e.symm, e2⟩
  · exact .inr ⟨fun z => e z.symm, by rw [dist_comm]; exact e2, by rw [roadOf_comm]; exact e3⟩
theorem lt_add {a b : Int × Int} (m s : Int) : DatumOrd.lt ((a.1 + m, a.2 + s) : Int × Int) (b.1 + m, b.2 + s) = DatumOrd.lt a b := by
  rw [Bool.eq_iff_iff, lt_pt, lt_pt]
  dsimp only
  omega
theorem minL1_least {cs : List (Int × Int)} (h : cs ≠ []) : Least (· ∈ cs) (minL1 cs) := by
  cases cs with
  | nil => exact absurd rfl h
  | cons x xs => exact minO_least x xs
abbrev vp (v : V3) : Int × Int := (v.a, v.b)
/-- A tells of each point the least that it costs to be there -/
def Best (g : Pt) (R : List Rd) (row : List Pt) (A : PF) : Prop := ∀ p ∈ spots g, Least (fun q => ∃ v, Reach g R row p v ∧ vp v = q) (A p)
theorem best_one (g : Pt) (R : List Rd) (h : Pt) : Best g R [h] (nextA g R h none) := by
  intro p hp
  refine ⟨⟨_, .one hp, rfl⟩, ?_⟩
  rintro y ⟨v, hv, rfl⟩
  cases hv with
  | one _ => exact ol_irr _
  | step hv _ => cases hv
theorem best_step {g : Pt} {R : List Rd} {h : Pt} {row : List Pt} {A : PF} (hA : Best g R row A) (hr : row ≠ []) : Best g R (h :: row) (nextA g R h (some A)) := by
  intro p hp
  have L := minL1_least (cs := (stepsM g R p).map fun s => ((A s.1).1 + s.2, (A s.1).2 + dist p h)) (by simpa using steps_ne R hp)
  refine ⟨?_, ?_⟩
  · obtain ⟨s, hs, e⟩ := List.mem_map.mp L.1
    obtain ⟨u, hu, eu⟩ := (hA s.1 (steps_mem hs)).1
    refine ⟨ext u (p, s.2) h, .step (s := (p, s.2)) hu (steps_sym hp hs), ?_⟩
    show (u.a + s.2, u.b + dist p h) = bndM g R h A p
    have eu' : (u.a, u.b) = A s.1 := eu
    unfold bndM
    rw [← e, ← eu']
  · rintro y ⟨v, hv, rfl⟩
    cases hv with
    | one _ => exact absurd rfl hr
    | @step _ _ q u s hu hs =>
      have hq := hu.spot
      have c := L.2 ((A q).1 + s.2, (A q).2 + dist s.1 h) (List.mem_map.mpr ⟨(q, s.2), steps_sym hq hs, rfl⟩)
      have b := (hA q hq).2 (vp u) ⟨u, hu, rfl⟩
      have b' : DatumOrd.lt ((u.a + s.2, u.b + dist s.1 h) : Int × Int) ((A q).1 + s.2, (A q).2 + dist s.1 h) = false := by
        have := lt_add (a := vp u) (b := A q) s.2 (dist s.1 h)
        rw [b] at this; exact this
      exact ol_ntr b' c
/-- what stands last -/
def lastO (g : Pt) (R : List Rd) : Option PF → List Pt → Option PF
  | o, [] => o
  | o, h :: hs => lastO g R (some (nextA g R h o)) hs
theorem best_last {g : Pt} {R : List Rd} : ∀ (hs : List Pt) {row : List Pt} {A : PF}, Best g R row A → row ≠ [] → ∃ B, lastO g R (some A) hs = some B ∧ Best g R (hs.reverse ++ row) B
  | [], _, A, hA, _ => ⟨A, rfl, hA⟩
  | h :: hs, row, A, hA, hr => by
    obtain ⟨B, e, hB⟩ := best_last hs (best_step (h := h) hA hr) (by simp)
    exact ⟨B, e, by rw [List.reverse_cons, List.append_assoc]; exact hB⟩
theorem best_row {g : Pt} {R : List Rd} {h : Pt} {hs : List Pt} : ∃ B, lastO g R none (h :: hs) = some B ∧ Best g R (h :: hs).reverse B := by
  obtain ⟨B, e, hB⟩ := best_last hs (best_one g R h) (by simp)
  exact ⟨B, e, by rw [List.reverse_cons]; exact hB⟩
theorem lt_vp {u v : V3} (h : DatumOrd.lt u v = false) : DatumOrd.lt (vp u) (vp v) = false := by
  cases e : DatumOrd.lt (vp u) (vp v) with
  | false => rfl
  | true =>
    rw [lt_V3] at h
    rcases (lt_pt _ _).mp e with e | ⟨e1, e2⟩
    · have e : u.a < v.a := e
      rw [if_neg (by omega), decide_eq_true e] at h; cases h
    · have e1 : u.a = v.a := e1
      have e2 : u.b < v.b := e2
      rw [if_pos e1, if_neg (by omega), decide_eq_true e2] at h; cases h
theorem min_least {g : Pt} (hg : okGround g) (A : PF) : Least (fun q => ∃ p ∈ spots g, A p = q) (minOver g A) := by
  refine (minL1_least (cs := (spots g).map A) (by simpa using spots_ne hg)).iff fun q => ?_
  rw [List.mem_map]
theorem min_best {g : Pt} {R : List Rd} {row : List Pt} {A : PF} {v : V3} (hg : okGround g) (hA : Best g R row A) (hv : Least (fun v => ∃ p, Reach g R row p v) v) : minOver g A = vp v := by
  obtain ⟨⟨p, hp, e⟩, L⟩ := min_least hg A
  obtain ⟨q, hq⟩ := hv.1
  refine ol_tot ?_ ?_
  · obtain ⟨w, hw, ew⟩ := (hA p hp).1
    cases z : DatumOrd.lt (minOver g A) (vp v) with
    | false => rfl
    | true =>
      rw [← e, ← ew, lt_vp (hv.2 w ⟨p, hw⟩)] at z; cases z
  · exact ol_ntr ((hA q hq.spot).2 _ ⟨v, hq, rfl⟩) (L (A q) ⟨q, hq.spot, rfl⟩)
/-- A stands nowhere above what it costs -/
def Below (g : Pt) (R : List Rd) (row : List Pt) (A : PF) : Prop := ∀ p v, Reach g R row p v → DatumOrd.lt (vp v) (A p) = false
theorem exc_false {g : Pt} {A B : PF} (h : exceeds g A B = false) {p : Pt} (hp : p ∈ spots g) : DatumOrd.lt (B p) (A p) = false := by
  unfold exceeds at h
  cases z : DatumOrd.lt (B p) (A p) with
  | false => rfl
  | true =>
    have w : (spots g).any (fun p => DatumOrd.lt (B p) (A p)) = true := List.any_eq_true.mpr ⟨p, hp, z⟩
    rw [h] at w; cases w
theorem below_one {g : Pt} {R : List Rd} {h : Pt} {A : PF} (hx : exceeds g A (nextA g R h none) = false) : Below g R [h] A := by
  intro p v hv
  have := exc_false hx hv.spot
  cases hv with
  | one _ => exact this
  | step hv _ => cases hv
theorem below_step {g : Pt} {R : List Rd} {h : Pt} {row : List Pt} {A B : PF} (hB : Below g R row B) (hr : row ≠ []) (hx : exceeds g A (nextA g R h (some B)) = false) : Below g R (h :: row) A := by
  intro p v hv
  have hp := hv.spot
  have a := exc_false hx hp
  cases hv with
  | one _ => exact absurd rfl hr
  | @step _ _ q u s hu hs =>
    have hq := hu.spot
    have L := minL1_least (cs := (stepsM g R s.1).map fun t => ((B t.1).1 + t.2, (B t.1).2 + dist s.1 h)) (by simpa using steps_ne R hp)
    have c := L.2 ((B q).1 + s.2, (B q).2 + dist s.1 h) (List.mem_map.mpr ⟨(q, s.2), steps_sym hq hs, rfl⟩)
    have b := hB q u hu
    have b' : DatumOrd.lt ((u.a + s.2, u.b + dist s.1 h) : Int × Int) ((B q).1 + s.2, (B q).2 + dist s.1 h) = false := by
      have := lt_add (a := vp u) (b := B q) s.2 (dist s.1 h)
      rw [b] at this; exact this
    exact ol_ntr (ol_ntr b' c) a
theorem shown_below {g : Pt} {R : List Rd} : ∀ (hs : List Pt) (ds : List D) {row : List Pt} {A B : PF}, hs.length = ds.length → Below g R row A → row ≠ [] → shownM g R (some A) hs ds = some (some B) → Below g R (hs.reverse ++ row) B
  | [], [], _, A, B, _, hA, _, e => by cases e; exact hA
  | h :: hs, d :: ds, row, A, B, hl, hA, hr, e => by
    simp only [shownM] at e
    cases hd : rowFn g d with
    | none => rw [hd] at e; cases e
    | some C =>
      rw [hd, Option.bind_some] at e
      split at e
      · cases e
      · rename_i hx
        have := shown_below hs ds (row := h :: row) (by simpa using hl) (below_step hA hr (Bool.eq_false_iff.mpr hx)) (by simp) e
        rwa [List.reverse_cons, List.append_assoc]
theorem shown_low {g : Pt} {R : List Rd} {h : Pt} {hs : List Pt} {ds : List D} {B : PF} (hl : (h :: hs).length = ds.length) (e : shownM g R none (h :: hs) ds = some (some B)) : Below g R (h :: hs).reverse B := by
  cases ds with
  | nil => cases hl
  | cons d ds =>
    simp only [shownM] at e
    cases hd : rowFn g d with
    | none => rw [hd] at e; cases e
    | some C =>
      rw [hd, Option.bind_some] at e
      split at e
      · cases e
      · rename_i hx
        have := shown_below hs ds (row := [h]) (by simpa using hl) (below_one (Bool.eq_false_iff.mpr hx)) (by simp) e
        rwa [List.reverse_cons]
theorem min_below {g : Pt} {R : List Rd} {row : List Pt} {A : PF} {v : V3} (hg : okGround g) (hA : Below g R row A) (hv : ∃ p, Reach g R row p v) : DatumOrd.lt (vp v) (minOver g A) = false := by
  obtain ⟨p, hp⟩ := hv
  exact ol_ntr (hA p v hp) ((min_least hg A).2 (A p) ⟨p, hp.spot, rfl⟩)
/-- the same on all points -/
def Agree (g : Pt) : Option PF → Option PF → Prop
  | none, none => True
  | some A, some B => ∀ p ∈ spots g, A p = B p
  | _, _ => False
theorem next_agree {g : Pt} (R : List Rd) (h : Pt) : ∀ {o o' : Option PF}, Agree g o o' → ∀ p ∈ spots g, nextA g R h o p = nextA g R h o' p
  | none, none, _, p, _ => rfl
  | some A, some B, hAB, p, _ => by
    show bndM g R h A p = bndM g R h B p
    unfold bndM
    congr 1
    refine List.map_congr_left fun s hs => ?_
    rw [hAB s.1 (steps_mem hs)]
theorem shown_pap {g : Pt} (hg : okGround g) {R : List Rd} : ∀ (hs : List Pt) {o o' : Option PF}, Agree g o o' → ∃ b, shownM g R o' hs ((papA g R o hs).map (linT g)) = some b ∧ Agree g (lastO g R o hs) b
  | [], o, o', h => ⟨o', by cases o' <;> rfl, h⟩
  | h :: hs, o, o', ha => by
    have hx : exceeds g (fnOf g ((spots g).map (nextA g R h o))) (nextA g R h o') = false := by
      unfold exceeds
      rw [List.any_eq_false]
      intro p hp
      rw [fnOf_eq hg _ hp, next_agree R h ha p hp, ol_irr]
      exact Bool.false_ne_true
    obtain ⟨b, e, hb⟩ := shown_pap hg hs (o := some (nextA g R h o)) (o' := some (fnOf g ((spots g).map (nextA g R h o)))) (fun p hp => (fnOf_eq hg _ hp).symm)
    refine ⟨b, ?_, hb⟩
    simp only [papA, List.map_cons, shownM]
    rw [rowFn_lin, Option.bind_some, hx]
    exact e
theorem pap_len (g : Pt) (R : List Rd) : ∀ (hs : List Pt) (o : Option PF), (papA g R o hs).length = hs.length
  | [], _ => by simp [papA]
  | h :: hs, o => by simp only [papA, List.length_cons, pap_len g R hs]
theorem pap_last {g : Pt} {R : List Rd} : ∀ (hs : List Pt) (h : Pt) (o : Option PF), ∃ A, lastO g R o (h :: hs) = some A ∧ (papA g R o (h :: hs)).getLast? = some A
  | [], h, o => ⟨nextA g R h o, rfl, rfl⟩
  | h2 :: hs, h, o => by
    obtain ⟨A, e1, e2⟩ := pap_last hs h2 (some (nextA g R h o))
    refine ⟨A, e1, ?_⟩
    show (nextA g R h o :: papA g R (some (nextA g R h o)) (h2 :: hs)).getLast? = _
    rw [List.getLast?_cons, e2]; rfl
theorem dist_8 {g p q : Pt} (hg : okGround g) (hp : okPt g p) (hq : okPt g q) : 0 ≤ dist p q ∧ dist p q ≤ 8 := by
  obtain ⟨g1, g2, g3, g4⟩ := hg
  obtain ⟨p1, p2, p3, p4⟩ := hp
  obtain ⟨q1, q2, q3, q4⟩ := hq
  unfold dist absI
  split <;> split <;> omega
theorem pap_bd {g : Pt} (hg : okGround g) {R : List Rd} : ∀ (hs : List Pt) (o : Option PF) (k : Int), (∀ p ∈ hs, okPt g p) → 0 ≤ k → (∀ A, o = some A → ∀ p ∈ spots g, Bd k (A p)) → ∀ A ∈ papA g R o hs, ∀ p ∈ spots g, Bd (k + 8 * hs.length) (A p)
  | [], o, k, _, _, _ => by intro A hA; simp [papA] at hA
  | h :: hs, o, k, hh, hk, ho => by
    have hn : ∀ p ∈ spots g, Bd (k + 8) (nextA g R h o p) := by
      intro p hp
      have d8 := dist_8 hg (spots_mem.mp hp) (hh h List.mem_cons_self)
      cases o with
      | none => exact ⟨Int.le_refl 0, by show (0 : Int) ≤ k + 8; omega, d8.1, by show dist p h ≤ k + 8; omega⟩
      | some A =>
        have L := minL1_least (cs := (stepsM g R p).map fun s => ((A s.1).1 + s.2, (A s.1).2 + dist p h)) (by simpa using steps_ne R hp)
        obtain ⟨s, hs2, e⟩ := List.mem_map.mp L.1
        obtain ⟨a1, a2, a3, a4⟩ := ho A rfl s.1 (steps_mem hs2)
        have s2 : 0 ≤ s.2 ∧ s.2 ≤ 1 := by
          rcases (mem_steps.mp hs2).2 with ⟨_, e2⟩ | ⟨_, _, e2⟩
          · omega
          · rw [e2]; split <;> omega
        show Bd (k + 8) (bndM g R h A p)
        unfold bndM
        rw [← e]
        exact ⟨by show 0 ≤ (A s.1).1 + s.2; omega, by show (A s.1).1 + s.2 ≤ k + 8; omega, by show 0 ≤ (A s.1).2 + dist p h; omega, by show (A s.1).2 + dist p h ≤ k + 8; omega⟩
    intro A hA p hp
    rw [List.length_cons]
    simp only [papA] at hA
    rcases List.mem_cons.mp hA with rfl | hA
    · obtain ⟨b1, b2, b3, b4⟩ := hn p hp
      exact ⟨b1, by omega, b3, by omega⟩
    · obtain ⟨b1, b2, b3, b4⟩ := pap_bd hg hs (some (nextA g R h o)) (k + 8) (fun z hz => hh z (List.mem_cons_of_mem _ hz)) (by omega) (fun B hB => by cases hB; exact hn) A hA p hp
      exact ⟨b1, by omega, b3, by omega⟩
theorem sane_pt (n : Nat) (q : Int × Int) : sane (n + 2) (pt q) = true := rfl
theorem sane_row (n : Nat) (qs : List (Int × Int)) (h : qs.length ≤ 1000000) : sane (n + 3) (.tuple (qs.map pt)) = true := by
  show (decide ((qs.map pt).length ≤ 1000000) && (qs.map pt).all (sane (n + 2))) = true
  rw [List.length_map, decide_eq_true h, List.all_map, Bool.true_and, List.all_eq_true]
  intro q _
  exact sane_pt n q
theorem sane_paper {g : Pt} (hg : okGround g) (As : List PF) (h : As.length ≤ 1000) : sane 8 (.tuple (As.map (linT g))) = true := by
  show (decide ((As.map (linT g)).length ≤ 1000000) && (As.map (linT g)).all (sane 7)) = true
  rw [List.length_map, decide_eq_true (by omega), List.all_map, Bool.true_and, List.all_eq_true]
  intro A _
  have := sane_row 4 ((spots g).map A) (by rw [List.length_map]; have := spots_25 hg; omega)
  rw [List.map_map] at this
  exact this
theorem sane_end (g : Pt) (x : Option (Option PF)) : sane 8 (endD g x) = true := by
  unfold endD
  split <;> rfl
theorem sane_showD (g : Pt) (R : List Rd) (row : List Pt) (x : D) : sane 8 (showD g R row x) = true := by
  unfold showD
  split
  · split
    · exact sane_end _ _
    · rfl
  · rfl
end WM.Pr
set_option Elab.async false
set_option linter.all false
set_option maxRecDepth 100000
set_option maxHeartbeats 4000000
namespace K04
open PySem PySem.Spec PyProof.Rows L2 WM WM.Pr
def topS (i : Nat) : Stmt := PySem.Challenge.pw_walkmap_k04_whole_papers_of_ways.main.body.getD i (.Pass ⟨0, 0, 0, 0⟩)
abbrev st_is_whole : Stmt := topS 9
theorem ok_is_whole : okSs ⟨N_is_whole, defScope st_is_whole, defScope st_is_whole⟩ il_is_whole (defBody st_is_whole) = true := by decide +kernel
theorem sc_is_whole : scB N_is_whole ["thing"] (defScope st_is_whole) = true := by decide +kernel
theorem w_is_whole {P : Program} {w : World} {K : PySem.W.Frag} {mg : Str → Option Value} {base : Heap} (D : Def K mg "is_whole" st_is_whole ["thing"]) (hb : ∀ x ∈ bnames, mg x = none) : HP P w K mg base 1 "is_whole" F_is_whole :=
  def_P D hb sc_is_whole ok_is_whole (by unfold il_is_whole; simp only [wfSs, wfS, wfE, wfEs, wfT, wfTs, wfIt, wfO, and_true, true_and])
abbrev st_is_within : Stmt := topS 10
theorem ok_is_within : okSs ⟨N_is_within, defScope st_is_within, defScope st_is_within⟩ il_is_within (defBody st_is_within) = true := by decide +kernel
theorem sc_is_within : scB N_is_within ["thing", "low", "high"] (defScope st_is_within) = true := by decide +kernel
theorem w_is_within {P : Program} {w : World} {K : PySem.W.Frag} {mg : Str → Option Value} {base : Heap} (D : Def K mg "is_within" st_is_within ["thing", "low", "high"]) (hb : ∀ x ∈ bnames, mg x = none) (h_is_whole : HP P w K mg base 1 "is_whole" F_is_whole) : HP P w K mg base 2 "is_within" F_is_within :=
  def_P D hb sc_is_within ok_is_within (by unfold il_is_within; simp only [wfSs, wfS, wfE, wfEs, wfT, wfTs, wfIt, wfO, and_true, true_and]; (repeat (first | assumption | apply And.intro)))
abbrev st_rises : Stmt := topS 11
theorem ok_rises : okSs ⟨N_rises, defScope st_rises, defScope st_rises⟩ il_rises (defBody st_rises) = true := by decide +kernel
theorem sc_rises : scB N_rises ["things"] (defScope st_rises) = true := by decide +kernel
theorem w_rises {P : Program} {w : World} {K : PySem.W.Frag} {mg : Str → Option Value} {base : Heap} (D : Def K mg "rises" st_rises ["things"]) (hb : ∀ x ∈ bnames, mg x = none) : HP P w K mg base 1 "rises" F_rises :=
  def_P D hb sc_rises ok_rises (by unfold il_rises; simp only [wfSs, wfS, wfE, wfEs, wfT, wfTs, wfIt, wfO, and_true, true_and])
abbrev st_is_ground : Stmt := topS 12
theorem ok_is_ground : okSs ⟨N_is_ground, defScope st_is_ground, defScope st_is_ground⟩ il_is_ground (defBody st_is_ground) = true := by decide +kernel
theorem sc_is_ground : scB N_is_ground ["thing"] (defScope st_is_ground) = true := by decide +kernel
theorem w_is_ground {P : Program} {w : World} {K : PySem.W.Frag} {mg : Str → Option Value} {base : Heap} (D : Def K mg "is_ground" st_is_ground ["thing"]) (hb : ∀ x ∈ bnames, mg x = none) (h_is_within : HP P w K mg base 2 "is_within" F_is_within) (g_MOST_SIDE : HG w K mg "MOST_SIDE" (.int 5)) : HP P w K mg base 3 "is_ground" F_is_ground :=
  def_P D hb sc_is_ground ok_is_ground (by unfold il_is_ground; simp only [wfSs, wfS, wfE, wfEs, wfT, wfTs, wfIt, wfO, and_true, true_and]; (repeat (first | assumption | apply And.intro)))
abbrev st_is_point : Stmt := topS 13
theorem ok_is_point : okSs ⟨N_is_point, defScope st_is_point, defScope st_is_point⟩ il_is_point (defBody st_is_point) = true := by decide +kernel
theorem sc_is_point : scB N_is_point ["ground", "thing"] (defScope st_is_point) = true := by decide +kernel
theorem w_is_point {P : Program} {w : World} {K : PySem.W.Frag} {mg : Str → Option Value} {base : Heap} (D : Def K mg "is_point" st_is_point ["ground", "thing"]) (hb : ∀ x ∈ bnames, mg x = none) (h_is_within : HP P w K mg base 2 "is_within" F_is_within) : HP P w K mg base 3 "is_point" F_is_point :=
  def_P D hb sc_is_point ok_is_point (by unfold il_is_point; simp only [wfSs, wfS, wfE, wfEs, wfT, wfTs, wfIt, wfO, and_true, true_and]; (repeat (first | assumption | apply And.intro)))
abbrev st_far : Stmt := topS 14
theorem ok_far : okSs ⟨N_far, defScope st_far, defScope st_far⟩ il_far (defBody st_far) = true := by decide +kernel
theorem sc_far : scB N_far ["one", "other"] (defScope st_far) = true := by decide +kernel
theorem w_far {P : Program} {w : World} {K : PySem.W.Frag} {mg : Str → Option Value} {base : Heap} (D : Def K mg "far" st_far ["one", "other"]) (hb : ∀ x ∈ bnames, mg x = none) : HP P w K mg base 1 "far" F_far :=
  def_P D hb sc_far ok_far (by unfold il_far; simp only [wfSs, wfS, wfE, wfEs, wfT, wfTs, wfIt, wfO, and_true, true_and])
abbrev st_is_road : Stmt := topS 15
theorem ok_is_road : okSs ⟨N_is_road, defScope st_is_road, defScope st_is_road⟩ il_is_road (defBody st_is_road) = true := by decide +kernel
theorem sc_is_road : scB N_is_road ["ground", "thing"] (defScope st_is_road) = true := by decide +kernel
theorem w_is_road {P : Program} {w : World} {K : PySem.W.Frag} {mg : Str → Option Value} {base : Heap} (D : Def K mg "is_road" st_is_road ["ground", "thing"]) (hb : ∀ x ∈ bnames, mg x = none) (h_is_point : HP P w K mg base 3 "is_point" F_is_point) (h_far : HP P w K mg base 3 "far" F_far) : HP P w K mg base 4 "is_road" F_is_road :=
  def_P D hb sc_is_road ok_is_road (by unfold il_is_road; simp only [wfSs, wfS, wfE, wfEs, wfT, wfTs, wfIt, wfO, and_true, true_and]; (repeat (first | assumption | apply And.intro)))
abbrev st_are_roads : Stmt := topS 16
theorem ok_are_roads : okSs ⟨N_are_roads, defScope st_are_roads, defScope st_are_roads⟩ il_are_roads (defBody st_are_roads) = true := by decide +kernel
theorem sc_are_roads : scB N_are_roads ["ground", "thing"] (defScope st_are_roads) = true := by decide +kernel
theorem w_are_roads {P : Program} {w : World} {K : PySem.W.Frag} {mg : Str → Option Value} {base : Heap} (D : Def K mg "are_roads" st_are_roads ["ground", "thing"]) (hb : ∀ x ∈ bnames, mg x = none) (h_is_road : HP P w K mg base 4 "is_road" F_is_road) (h_rises : HP P w K mg base 4 "rises" F_rises) (g_MOST_ROADS : HG w K mg "MOST_ROADS" (.int 40)) : HP P w K mg base 5 "are_roads" F_are_roads :=
  def_P D hb sc_are_roads ok_are_roads (by unfold il_are_roads; simp only [wfSs, wfS, wfE, wfEs, wfT, wfTs, wfIt, wfO, and_true, true_and]; (repeat (first | assumption | apply And.intro)))
abbrev st_is_row : Stmt := topS 17
theorem ok_is_row : okSs ⟨N_is_row, defScope st_is_row, defScope st_is_row⟩ il_is_row (defBody st_is_row) = true := by decide +kernel
theorem sc_is_row : scB N_is_row ["ground", "thing"] (defScope st_is_row) = true := by decide +kernel
theorem w_is_row {P : Program} {w : World} {K : PySem.W.Frag} {mg : Str → Option Value} {base : Heap} (D : Def K mg "is_row" st_is_row ["ground", "thing"]) (hb : ∀ x ∈ bnames, mg x = none) (h_is_point : HP P w K mg base 3 "is_point" F_is_point) (g_MOST_ROW : HG w K mg "MOST_ROW" (.int 10)) : HP P w K mg base 4 "is_row" F_is_row :=
  def_P D hb sc_is_row ok_is_row (by unfold il_is_row; simp only [wfSs, wfS, wfE, wfEs, wfT, wfTs, wfIt, wfO, and_true, true_and]; (repeat (first | assumption | apply And.intro)))
abbrev st_points : Stmt := topS 18
theorem ok_points : okSs ⟨N_points, defScope st_points, defScope st_points⟩ il_points (defBody st_points) = true := by decide +kernel
theorem sc_points : scB N_points ["ground"] (defScope st_points) = true := by decide +kernel
theorem w_points {P : Program} {w : World} {K : PySem.W.Frag} {mg : Str → Option Value} {base : Heap} (D : Def K mg "points" st_points ["ground"]) (hb : ∀ x ∈ bnames, mg x = none) : HP P w K mg base 1 "points" F_points :=
  def_P D hb sc_points ok_points (by unfold il_points; simp only [wfSs, wfS, wfE, wfEs, wfT, wfTs, wfIt, wfO, and_true, true_and])
abbrev st_road_of : Stmt := topS 19
theorem ok_road_of : okSs ⟨N_road_of, defScope st_road_of, defScope st_road_of⟩ il_road_of (defBody st_road_of) = true := by decide +kernel
theorem sc_road_of : scB N_road_of ["one", "other"] (defScope st_road_of) = true := by decide +kernel
theorem w_road_of {P : Program} {w : World} {K : PySem.W.Frag} {mg : Str → Option Value} {base : Heap} (D : Def K mg "road_of" st_road_of ["one", "other"]) (hb : ∀ x ∈ bnames, mg x = none) : HP P w K mg base 1 "road_of" F_road_of :=
  def_P D hb sc_road_of ok_road_of (by unfold il_road_of; simp only [wfSs, wfS, wfE, wfEs, wfT, wfTs, wfIt, wfO, and_true, true_and])
abbrev st_look_at_ground : Stmt := topS 20
theorem ok_look_at_ground : okSs ⟨N_look_at_ground, defScope st_look_at_ground, defScope st_look_at_ground⟩ il_look_at_ground (defBody st_look_at_ground) = true := by decide +kernel
theorem sc_look_at_ground : scB N_look_at_ground ["ground"] (defScope st_look_at_ground) = true := by decide +kernel
theorem w_look_at_ground {P : Program} {w : World} {K : PySem.W.Frag} {mg : Str → Option Value} {base : Heap} (D : Def K mg "look_at_ground" st_look_at_ground ["ground"]) (hb : ∀ x ∈ bnames, mg x = none) (h_is_ground : HP P w K mg base 3 "is_ground" F_is_ground) : HP P w K mg base 4 "look_at_ground" F_look_at_ground :=
  def_P D hb sc_look_at_ground ok_look_at_ground (by unfold il_look_at_ground; simp only [wfSs, wfS, wfE, wfEs, wfT, wfTs, wfIt, wfO, and_true, true_and]; (repeat (first | assumption | apply And.intro)))
abbrev st_look_at_roads : Stmt := topS 21
theorem ok_look_at_roads : okSs ⟨N_look_at_roads, defScope st_look_at_roads, defScope st_look_at_roads⟩ il_look_at_roads (defBody st_look_at_roads) = true := by decide +kernel
theorem sc_look_at_roads : scB N_look_at_roads ["ground", "roads"] (defScope st_look_at_roads) = true := by decide +kernel
theorem w_look_at_roads {P : Program} {w : World} {K : PySem.W.Frag} {mg : Str → Option Value} {base : Heap} (D : Def K mg "look_at_roads" st_look_at_roads ["ground", "roads"]) (hb : ∀ x ∈ bnames, mg x = none) (h_look_at_ground : HP P w K mg base 5 "look_at_ground" F_look_at_ground) (h_are_roads : HP P w K mg base 5 "are_roads" F_are_roads) : HP P w K mg base 6 "look_at_roads" F_look_at_roads :=
  def_P D hb sc_look_at_roads ok_look_at_roads (by unfold il_look_at_roads; simp only [wfSs, wfS, wfE, wfEs, wfT, wfTs, wfIt, wfO, and_true, true_and]; (repeat (first | assumption | apply And.intro)))
abbrev st_look_at_row : Stmt := topS 22
theorem ok_look_at_row : okSs ⟨N_look_at_row, defScope st_look_at_row, defScope st_look_at_row⟩ il_look_at_row (defBody st_look_at_row) = true := by decide +kernel
theorem sc_look_at_row : scB N_look_at_row ["ground", "row"] (defScope st_look_at_row) = true := by decide +kernel
theorem w_look_at_row {P : Program} {w : World} {K : PySem.W.Frag} {mg : Str → Option Value} {base : Heap} (D : Def K mg "look_at_row" st_look_at_row ["ground", "row"]) (hb : ∀ x ∈ bnames, mg x = none) (h_is_row : HP P w K mg base 4 "is_row" F_is_row) : HP P w K mg base 5 "look_at_row" F_look_at_row :=
  def_P D hb sc_look_at_row ok_look_at_row (by unfold il_look_at_row; simp only [wfSs, wfS, wfE, wfEs, wfT, wfTs, wfIt, wfO, and_true, true_and]; (repeat (first | assumption | apply And.intro)))
abbrev st_steps : Stmt := topS 24
theorem ok_steps : okSs ⟨N_steps, defScope st_steps, defScope st_steps⟩ il_steps (defBody st_steps) = true := by decide +kernel
theorem sc_steps : scB N_steps ["ground", "roads", "point"] (defScope st_steps) = true := by decide +kernel
theorem w_steps {P : Program} {w : World} {K : PySem.W.Frag} {mg : Str → Option Value} {base : Heap} (D : Def K mg "steps" st_steps ["ground", "roads", "point"]) (hb : ∀ x ∈ bnames, mg x = none) (h_far : HP P w K mg base 1 "far" F_far) (h_road_of : HP P w K mg base 1 "road_of" F_road_of) (h_points : HP P w K mg base 1 "points" F_points) : HP P w K mg base 2 "steps" F_steps :=
  def_P D hb sc_steps ok_steps (by unfold il_steps; simp only [b_steps_1, wfSs, wfS, wfE, wfEs, wfT, wfTs, wfIt, wfO, and_true, true_and]; (repeat (first | assumption | apply And.intro)))
abbrev st_best_way : Stmt := topS 25
theorem ok_best_way : okSs ⟨N_best_way, defScope st_best_way, defScope st_best_way⟩ il_best_way (defBody st_best_way) = true := by decide +kernel
theorem sc_best_way : scB N_best_way ["ground", "roads", "row"] (defScope st_best_way) = true := by decide +kernel
theorem w_best_way {P : Program} {w : World} {K : PySem.W.Frag} {mg : Str → Option Value} {base : Heap} (D : Def K mg "best_way" st_best_way ["ground", "roads", "row"]) (hb : ∀ x ∈ bnames, mg x = none) (h_look_at_roads : HP P w K mg base 6 "look_at_roads" F_look_at_roads) (h_look_at_row : HP P w K mg base 6 "look_at_row" F_look_at_row) (h_far : HP P w K mg base 6 "far" F_far) (h_points : HP P w K mg base 6 "points" F_points) (h_steps : HP P w K mg base 6 "steps" F_steps) : HP P w K mg base 7 "best_way" F_best_way :=
  def_P D hb sc_best_way ok_best_way (by unfold il_best_way; simp only [b_best_way_1, b_best_way_2, b_best_way_3, wfSs, wfS, wfE, wfEs, wfT, wfTs, wfIt, wfO, and_true, true_and]; (repeat (first | assumption | apply And.intro)))
abbrev st_bounds_of : Stmt := topS 26
theorem ok_bounds_of : okSs ⟨N_bounds_of, defScope st_bounds_of, defScope st_bounds_of⟩ il_bounds_of (defBody st_bounds_of) = true := by decide +kernel
theorem sc_bounds_of : scB N_bounds_of ["ground", "roads", "heard", "ahead"] (defScope st_bounds_of) = true := by decide +kernel
theorem w_bounds_of {P : Program} {w : World} {K : PySem.W.Frag} {mg : Str → Option Value} {base : Heap} (D : Def K mg "bounds_of" st_bounds_of ["ground", "roads", "heard", "ahead"]) (hb : ∀ x ∈ bnames, mg x = none) (h_far : HP P w K mg base 2 "far" F_far) (h_points : HP P w K mg base 2 "points" F_points) (h_steps : HP P w K mg base 2 "steps" F_steps) : HP P w K mg base 3 "bounds_of" F_bounds_of :=
  def_P D hb sc_bounds_of ok_bounds_of (by unfold il_bounds_of; simp only [b_bounds_of_1, b_bounds_of_2, wfSs, wfS, wfE, wfEs, wfT, wfTs, wfIt, wfO, and_true, true_and]; (repeat (first | assumption | apply And.intro)))
abbrev st_way_paper : Stmt := topS 27
theorem ok_way_paper : okSs ⟨N_way_paper, defScope st_way_paper, defScope st_way_paper⟩ il_way_paper (defBody st_way_paper) = true := by decide +kernel
theorem sc_way_paper : scB N_way_paper ["ground", "roads", "row"] (defScope st_way_paper) = true := by decide +kernel
theorem w_way_paper {P : Program} {w : World} {K : PySem.W.Frag} {mg : Str → Option Value} {base : Heap} (D : Def K mg "way_paper" st_way_paper ["ground", "roads", "row"]) (hb : ∀ x ∈ bnames, mg x = none) (h_look_at_roads : HP P w K mg base 6 "look_at_roads" F_look_at_roads) (h_look_at_row : HP P w K mg base 6 "look_at_row" F_look_at_row) (h_bounds_of : HP P w K mg base 6 "bounds_of" F_bounds_of) : HP P w K mg base 7 "way_paper" F_way_paper :=
  def_P D hb sc_way_paper ok_way_paper (by unfold il_way_paper; simp only [b_way_paper_1, wfSs, wfS, wfE, wfEs, wfT, wfTs, wfIt, wfO, and_true, true_and]; (repeat (first | assumption | apply And.intro)))
abbrev st_are_pairs : Stmt := topS 28
theorem ok_are_pairs : okSs ⟨N_are_pairs, defScope st_are_pairs, defScope st_are_pairs⟩ il_are_pairs (defBody st_are_pairs) = true := by decide +kernel
theorem sc_are_pairs : scB N_are_pairs ["thing", "many"] (defScope st_are_pairs) = true := by decide +kernel
theorem w_are_pairs {P : Program} {w : World} {K : PySem.W.Frag} {mg : Str → Option Value} {base : Heap} (D : Def K mg "are_pairs" st_are_pairs ["thing", "many"]) (hb : ∀ x ∈ bnames, mg x = none) (h_is_whole : HP P w K mg base 1 "is_whole" F_is_whole) : HP P w K mg base 2 "are_pairs" F_are_pairs :=
  def_P D hb sc_are_pairs ok_are_pairs (by unfold il_are_pairs; simp only [wfSs, wfS, wfE, wfEs, wfT, wfTs, wfIt, wfO, and_true, true_and]; (repeat (first | assumption | apply And.intro)))
abbrev st_way_shown : Stmt := topS 29
theorem ok_way_shown : okSs ⟨N_way_shown, defScope st_way_shown, defScope st_way_shown⟩ il_way_shown (defBody st_way_shown) = true := by decide +kernel
theorem sc_way_shown : scB N_way_shown ["ground", "roads", "row", "thing"] (defScope st_way_shown) = true := by decide +kernel
theorem w_way_shown {P : Program} {w : World} {K : PySem.W.Frag} {mg : Str → Option Value} {base : Heap} (D : Def K mg "way_shown" st_way_shown ["ground", "roads", "row", "thing"]) (hb : ∀ x ∈ bnames, mg x = none) (h_look_at_roads : HP P w K mg base 6 "look_at_roads" F_look_at_roads) (h_look_at_row : HP P w K mg base 6 "look_at_row" F_look_at_row) (h_points : HP P w K mg base 6 "points" F_points) (h_are_pairs : HP P w K mg base 6 "are_pairs" F_are_pairs) (h_bounds_of : HP P w K mg base 6 "bounds_of" F_bounds_of) : HP P w K mg base 7 "way_shown" F_way_shown :=
  def_P D hb sc_way_shown ok_way_shown (by unfold il_way_shown; simp only [b_way_shown_1, wfSs, wfS, wfE, wfEs, wfT, wfTs, wfIt, wfO, and_true, true_and]; (repeat (first | assumption | apply And.intro)))
abbrev st__law_take : Stmt := topS 32
theorem ok__law_take : okSs ⟨N__law_take, defScope st__law_take, defScope st__law_take⟩ il__law_take (defBody st__law_take) = true := by decide +kernel
theorem sc__law_take : scB N__law_take ["bag", "many"] (defScope st__law_take) = true := by decide +kernel
theorem w__law_take {P : Program} {w : World} {K : PySem.W.Frag} {mg : Str → Option Value} {base : Heap} (D : Def K mg "_law_take" st__law_take ["bag", "many"]) (hb : ∀ x ∈ bnames, mg x = none) : HB P w K mg base 1 "_law_take" F__law_take :=
  def_B D hb sc__law_take ok__law_take (by unfold il__law_take; simp only [wfSs, wfS, wfE, wfEs, wfT, wfTs, wfIt, wfO, and_true, true_and])
abbrev st__law_same : Stmt := topS 34
theorem ok__law_same (F : FP) : okSs ⟨N__law_same, defScope st__law_same, defScope st__law_same⟩ (il__law_same F) (defBody st__law_same) = true := by kernel_rfl
theorem sc__law_same : scB N__law_same ["a", "b"] (defScope st__law_same) = true := by decide +kernel
theorem w0__law_same {P : Program} {w : World} {K : PySem.W.Frag} {mg : Str → Option Value} {base : Heap} (D : Def K mg "_law_same" st__law_same ["a", "b"]) (hb : ∀ x ∈ bnames, mg x = none) : ∀ n, HP P w K mg base (0 + n) "_law_same" (Fs__law_same n)
  | 0 => def_none D
  | n + 1 => def_P D hb sc__law_same (ok__law_same _) (by
    have ih := w0__law_same (P := P) (w := w) (base := base) D hb   n
    unfold il__law_same; simp only [wfSs, wfS, wfE, wfEs, wfT, wfTs, wfIt, wfO, and_true, true_and]; (repeat (first | assumption | apply And.intro)))
theorem w__law_same {P : Program} {w : World} {K : PySem.W.Frag} {mg : Str → Option Value} {base : Heap} (D : Def K mg "_law_same" st__law_same ["a", "b"]) (hb : ∀ x ∈ bnames, mg x = none) : HP P w K mg base 8 "_law_same" F__law_same := w0__law_same D hb   8
abbrev st__law_in : Stmt := topS 35
theorem ok__law_in : okSs ⟨N__law_in, defScope st__law_in, defScope st__law_in⟩ il__law_in (defBody st__law_in) = true := by decide +kernel
theorem sc__law_in : scB N__law_in ["x", "low", "high"] (defScope st__law_in) = true := by decide +kernel
theorem w__law_in {P : Program} {w : World} {K : PySem.W.Frag} {mg : Str → Option Value} {base : Heap} (D : Def K mg "_law_in" st__law_in ["x", "low", "high"]) (hb : ∀ x ∈ bnames, mg x = none) : HP P w K mg base 1 "_law_in" F__law_in :=
  def_P D hb sc__law_in ok__law_in (by unfold il__law_in; simp only [wfSs, wfS, wfE, wfEs, wfT, wfTs, wfIt, wfO, and_true, true_and])
abbrev st__law_all_roads : Stmt := topS 36
theorem ok__law_all_roads : okSs ⟨N__law_all_roads, defScope st__law_all_roads, defScope st__law_all_roads⟩ il__law_all_roads (defBody st__law_all_roads) = true := by decide +kernel
theorem sc__law_all_roads : scB N__law_all_roads ["ground"] (defScope st__law_all_roads) = true := by decide +kernel
theorem w__law_all_roads {P : Program} {w : World} {K : PySem.W.Frag} {mg : Str → Option Value} {base : Heap} (D : Def K mg "_law_all_roads" st__law_all_roads ["ground"]) (hb : ∀ x ∈ bnames, mg x = none) : HP P w K mg base 1 "_law_all_roads" F__law_all_roads :=
  def_P D hb sc__law_all_roads ok__law_all_roads (by unfold il__law_all_roads; simp only [b__law_all_roads_1, b__law_all_roads_2, wfSs, wfS, wfE, wfEs, wfT, wfTs, wfIt, wfO, and_true, true_and])
abbrev st__law_ground : Stmt := topS 37
theorem ok__law_ground : okSs ⟨N__law_ground, defScope st__law_ground, defScope st__law_ground⟩ il__law_ground (defBody st__law_ground) = true := by decide +kernel
theorem sc__law_ground : scB N__law_ground ["bag", "most"] (defScope st__law_ground) = true := by decide +kernel
theorem w__law_ground {P : Program} {w : World} {K : PySem.W.Frag} {mg : Str → Option Value} {base : Heap} (D : Def K mg "_law_ground" st__law_ground ["bag", "most"]) (hb : ∀ x ∈ bnames, mg x = none) (h__law_take : HB P w K mg base 1 "_law_take" F__law_take) : HB P w K mg base 2 "_law_ground" F__law_ground :=
  def_B D hb sc__law_ground ok__law_ground (by unfold il__law_ground; simp only [wfSs, wfS, wfE, wfEs, wfT, wfTs, wfIt, wfO, and_true, true_and]; (repeat (first | assumption | apply And.intro)))
abbrev st__law_roads : Stmt := topS 38
theorem ok__law_roads : okSs ⟨N__law_roads, defScope st__law_roads, defScope st__law_roads⟩ il__law_roads (defBody st__law_roads) = true := by decide +kernel
theorem sc__law_roads : scB N__law_roads ["bag", "ground"] (defScope st__law_roads) = true := by decide +kernel
theorem w__law_roads {P : Program} {w : World} {K : PySem.W.Frag} {mg : Str → Option Value} {base : Heap} (D : Def K mg "_law_roads" st__law_roads ["bag", "ground"]) (hb : ∀ x ∈ bnames, mg x = none) (h__law_take : HB P w K mg base 1 "_law_take" F__law_take) (h__law_all_roads : HP P w K mg base 1 "_law_all_roads" F__law_all_roads) : HB P w K mg base 2 "_law_roads" F__law_roads :=
  def_B D hb sc__law_roads ok__law_roads (by unfold il__law_roads; simp only [wfSs, wfS, wfE, wfEs, wfT, wfTs, wfIt, wfO, and_true, true_and]; (repeat (first | assumption | apply And.intro)))
abbrev st__law_point : Stmt := topS 39
theorem ok__law_point : okSs ⟨N__law_point, defScope st__law_point, defScope st__law_point⟩ il__law_point (defBody st__law_point) = true := by decide +kernel
theorem sc__law_point : scB N__law_point ["bag", "ground"] (defScope st__law_point) = true := by decide +kernel
theorem w__law_point {P : Program} {w : World} {K : PySem.W.Frag} {mg : Str → Option Value} {base : Heap} (D : Def K mg "_law_point" st__law_point ["bag", "ground"]) (hb : ∀ x ∈ bnames, mg x = none) (h__law_take : HB P w K mg base 1 "_law_take" F__law_take) : HB P w K mg base 2 "_law_point" F__law_point :=
  def_B D hb sc__law_point ok__law_point (by unfold il__law_point; simp only [wfSs, wfS, wfE, wfEs, wfT, wfTs, wfIt, wfO, and_true, true_and]; (repeat (first | assumption | apply And.intro)))
abbrev st__law_row : Stmt := topS 40
theorem ok__law_row : okSs ⟨N__law_row, defScope st__law_row, defScope st__law_row⟩ il__law_row (defBody st__law_row) = true := by decide +kernel
theorem sc__law_row : scB N__law_row ["bag", "ground", "most"] (defScope st__law_row) = true := by decide +kernel
theorem w__law_row {P : Program} {w : World} {K : PySem.W.Frag} {mg : Str → Option Value} {base : Heap} (D : Def K mg "_law_row" st__law_row ["bag", "ground", "most"]) (hb : ∀ x ∈ bnames, mg x = none) (h__law_take : HB P w K mg base 2 "_law_take" F__law_take) (h__law_point : HB P w K mg base 2 "_law_point" F__law_point) : HB P w K mg base 3 "_law_row" F__law_row :=
  def_B D hb sc__law_row ok__law_row (by unfold il__law_row; simp only [b__law_row_1, wfSs, wfS, wfE, wfEs, wfT, wfTs, wfIt, wfO, and_true, true_and]; (repeat (first | assumption | apply And.intro)))
abbrev st__law_far : Stmt := topS 41
theorem ok__law_far : okSs ⟨N__law_far, defScope st__law_far, defScope st__law_far⟩ il__law_far (defBody st__law_far) = true := by decide +kernel
theorem sc__law_far : scB N__law_far ["one", "other"] (defScope st__law_far) = true := by decide +kernel
theorem w__law_far {P : Program} {w : World} {K : PySem.W.Frag} {mg : Str → Option Value} {base : Heap} (D : Def K mg "_law_far" st__law_far ["one", "other"]) (hb : ∀ x ∈ bnames, mg x = none) : HP P w K mg base 1 "_law_far" F__law_far :=
  def_P D hb sc__law_far ok__law_far (by unfold il__law_far; simp only [wfSs, wfS, wfE, wfEs, wfT, wfTs, wfIt, wfO, and_true, true_and])
abbrev st__law_spots : Stmt := topS 42
theorem ok__law_spots : okSs ⟨N__law_spots, defScope st__law_spots, defScope st__law_spots⟩ il__law_spots (defBody st__law_spots) = true := by decide +kernel
theorem sc__law_spots : scB N__law_spots ["ground"] (defScope st__law_spots) = true := by decide +kernel
theorem w__law_spots {P : Program} {w : World} {K : PySem.W.Frag} {mg : Str → Option Value} {base : Heap} (D : Def K mg "_law_spots" st__law_spots ["ground"]) (hb : ∀ x ∈ bnames, mg x = none) : HP P w K mg base 1 "_law_spots" F__law_spots :=
  def_P D hb sc__law_spots ok__law_spots (by unfold il__law_spots; simp only [b__law_spots_1, wfSs, wfS, wfE, wfEs, wfT, wfTs, wfIt, wfO, and_true, true_and])
abbrev st__law_off : Stmt := topS 43
theorem ok__law_off : okSs ⟨N__law_off, defScope st__law_off, defScope st__law_off⟩ il__law_off (defBody st__law_off) = true := by decide +kernel
theorem sc__law_off : scB N__law_off ["roads", "one", "other"] (defScope st__law_off) = true := by decide +kernel
theorem w__law_off {P : Program} {w : World} {K : PySem.W.Frag} {mg : Str → Option Value} {base : Heap} (D : Def K mg "_law_off" st__law_off ["roads", "one", "other"]) (hb : ∀ x ∈ bnames, mg x = none) : HP P w K mg base 1 "_law_off" F__law_off :=
  def_P D hb sc__law_off ok__law_off (by unfold il__law_off; simp only [wfSs, wfS, wfE, wfEs, wfT, wfTs, wfIt, wfO, and_true, true_and])
abbrev st__law_bounds : Stmt := topS 44
theorem ok__law_bounds : okSs ⟨N__law_bounds, defScope st__law_bounds, defScope st__law_bounds⟩ il__law_bounds (defBody st__law_bounds) = true := by decide +kernel
theorem sc__law_bounds : scB N__law_bounds ["ground", "roads", "heard", "ahead"] (defScope st__law_bounds) = true := by decide +kernel
theorem w__law_bounds {P : Program} {w : World} {K : PySem.W.Frag} {mg : Str → Option Value} {base : Heap} (D : Def K mg "_law_bounds" st__law_bounds ["ground", "roads", "heard", "ahead"]) (hb : ∀ x ∈ bnames, mg x = none) (h__law_far : HP P w K mg base 1 "_law_far" F__law_far) (h__law_off : HP P w K mg base 1 "_law_off" F__law_off) (h__law_spots : HP P w K mg base 1 "_law_spots" F__law_spots) : HP P w K mg base 2 "_law_bounds" F__law_bounds :=
  def_P D hb sc__law_bounds ok__law_bounds (by unfold il__law_bounds; simp only [b__law_bounds_1, b__law_bounds_2, wfSs, wfS, wfE, wfEs, wfT, wfTs, wfIt, wfO, and_true, true_and]; (repeat (first | assumption | apply And.intro)))
abbrev st__law_shown : Stmt := topS 45
theorem ok__law_shown : okSs ⟨N__law_shown, defScope st__law_shown, defScope st__law_shown⟩ il__law_shown (defBody st__law_shown) = true := by decide +kernel
theorem sc__law_shown : scB N__law_shown ["ground", "roads", "row", "x"] (defScope st__law_shown) = true := by decide +kernel
theorem w__law_shown {P : Program} {w : World} {K : PySem.W.Frag} {mg : Str → Option Value} {base : Heap} (D : Def K mg "_law_shown" st__law_shown ["ground", "roads", "row", "x"]) (hb : ∀ x ∈ bnames, mg x = none) (h__law_bounds : HP P w K mg base 2 "_law_bounds" F__law_bounds) (h__law_in : HP P w K mg base 2 "_law_in" F__law_in) : HP P w K mg base 3 "_law_shown" F__law_shown :=
  def_P D hb sc__law_shown ok__law_shown (by unfold il__law_shown; simp only [b__law_shown_1, b__law_shown_2, wfSs, wfS, wfE, wfEs, wfT, wfTs, wfIt, wfO, and_true, true_and]; (repeat (first | assumption | apply And.intro)))
abbrev st__law_bent : Stmt := topS 46
theorem ok__law_bent : okSs ⟨N__law_bent, defScope st__law_bent, defScope st__law_bent⟩ il__law_bent (defBody st__law_bent) = true := by decide +kernel
theorem sc__law_bent : scB N__law_bent ["bag", "due"] (defScope st__law_bent) = true := by decide +kernel
theorem w__law_bent {P : Program} {w : World} {K : PySem.W.Frag} {mg : Str → Option Value} {base : Heap} (D : Def K mg "_law_bent" st__law_bent ["bag", "due"]) (hb : ∀ x ∈ bnames, mg x = none) (h__law_take : HB P w K mg base 1 "_law_take" F__law_take) : HB P w K mg base 2 "_law_bent" F__law_bent :=
  def_B D hb sc__law_bent ok__law_bent (by unfold il__law_bent; simp only [wfSs, wfS, wfE, wfEs, wfT, wfTs, wfIt, wfO, and_true, true_and]; (repeat (first | assumption | apply And.intro)))

abbrev st_law : Stmt := topS 47
def N_law : List Str := ["script", "bag", "ground", "due", "ahead", "heard", "least", "turn", "none", "x", "roads", "row", "shown", "pairs"]
def b_law_1 : Ss :=
  .cons (.asg 4 (.call "_law_bounds" F__law_bounds (.cons (.var 2) (.cons (.var 10) (.cons (.var 5) (.cons (.var 4) .nil))))))
  (.cons (.app 3 (.var 4)) .nil)
def b_law_2 : Ss :=
  .cons (.ite (.or (.not (.val (.call "_law_same" F__law_same (.cons (.call "way_paper" F_way_paper (.cons (.var 2) (.cons (.var 10) (.cons (.var 11) .nil)))) (.cons (.var 3) .nil))))) (.val (.cmp .ne (.fn .min (.oIdx 3 (.neg (.int 1)))) (.var 6)))) (.cons (.ret (.bl false)) .nil) (.nil))
  (.cons (.exp (.call "best_way" F_best_way (.cons (.var 2) (.cons (.tup .nil) (.cons (.cut (.var 11) .no (.yes (.int 1))) .nil))))) .nil)
def b_law_3 : Ss :=
  .cons (.asg 12 (.call "_law_shown" F__law_shown (.cons (.var 2) (.cons (.var 10) (.cons (.var 11) (.cons (.var 9) .nil))))))
  (.cons (.ite (.not (.val (.call "_law_same" F__law_same (.cons (.call "way_shown" F_way_shown (.cons (.var 2) (.cons (.var 10) (.cons (.var 11) (.cons (.var 9) .nil))))) (.cons (.var 12) .nil))))) (.cons (.ret (.bl false)) .nil) (.nil))
  (.cons (.ite (.and (.val (.cmp .isn (.var 12) (.non))) (.val (.cmp .gt (.var 12) (.var 6)))) (.cons (.ret (.bl false)) .nil) (.nil)) .nil))
def il_law : Ss :=
  .cons (.asg 2 (.callB "_law_ground" F__law_ground 1 (.cons (.int 4) .nil)))
  (.cons (.par [10, 11] (.cons (.callB "_law_roads" F__law_roads 1 (.cons (.var 2) .nil)) (.cons (.callB "_law_row" F__law_row 1 (.cons (.var 2) (.cons (.int 6) .nil))) .nil)))
  (.cons (.asgO 3 (.lst .nil))
  (.cons (.asg 4 (.non))
  (.cons (.loop (.nm 5) (.seq (.var 11)) b_law_1 [5])
  (.cons (.asg 3 (.fn .tuple (.var 3)))
  (.cons (.asg 6 (.cut (.call "best_way" F_best_way (.cons (.var 2) (.cons (.var 10) (.cons (.var 11) .nil)))) .no (.yes (.int 2))))
  (.cons (.loop (.nm 7) (.rng (.int 2)) b_law_2 [7])
  (.cons (.asg 8 (.fn .tuple (.lc (.bin .mul (.tup (.cons (.tup (.cons (.int 0) (.cons (.int 0) .nil))) .nil)) (.fn .len (.var 13))) (.nm 13) (.seq (.var 3)) .nil [("pairs", 13)])))
  (.cons (.loop (.nm 9) (.seq (.bin .add (.lst (.cons (.var 3) (.cons (.var 8) (.cons (.fn .list (.var 3)) (.cons (.non) (.cons (.tup .nil) (.cons (.int 7) .nil))))))) (.lc (.callB "_law_bent" F__law_bent 1 (.cons (.var 3) .nil)) (.nm 7) (.rng (.int 14)) .nil [("turn", 7)]))) b_law_3 [9, 12])
  (.cons (.ite (.val (.cmp .ne (.call "_law_shown" F__law_shown (.cons (.var 2) (.cons (.var 10) (.cons (.var 11) (.cons (.var 3) .nil))))) (.var 6))) (.cons (.ret (.bl false)) .nil) (.nil)) .nil))))))))))
theorem ok_law : lawB ⟨N_law, defScope st_law, defScope st_law⟩ il_law 1 5 (defBody st_law) = true := by decide +kernel
theorem sc_law : scB N_law ["script"] (defScope st_law) = true := by decide +kernel
abbrev st__law_well : Stmt := topS 31
abbrev st__law_bags : Stmt := topS 33
def N__law_well : List Str := ["cell", "turn"]
def N__law_bags : List Str := ["script", "most", "k", "cell"]
theorem sc__law_well : scB N__law_well ["cell", "turn"] (defScope st__law_well) = true := by decide +kernel
theorem sc__law_bags : scB N__law_bags ["script", "most"] (defScope st__law_bags) = true := by decide +kernel
theorem ok__law_well : wellB ⟨N__law_well, defScope st__law_well, defScope st__law_well⟩ (defBody st__law_well) = true := by decide +kernel
theorem ok__law_bags : bagsB ⟨N__law_bags, defScope st__law_bags, defScope st__law_bags⟩ (defBody st__law_bags) = true := by decide +kernel
/-- what the mathematics is to show -/
def Maths : Prop := ∀ ns : List Int, ns.length ≤ 63 → ∀ (i : Nat) (c : Int), (ns.take (Int.toNat 5) ++ [0])[i]? = some c → ∃ ρ', denSs il_law (bagEnv N_law.length 1 (wellI c (977 * i))) = some (.nx, ρ') ∧ ρ'.length = N_law.length
theorem walk {P : Program} {w : World} {K : PySem.W.Frag} {mg : Str → Option Value} (D_law : Def K mg "law" st_law ["script"]) (D_is_whole : Def K mg "is_whole" st_is_whole ["thing"]) (D_is_within : Def K mg "is_within" st_is_within ["thing", "low", "high"]) (D_rises : Def K mg "rises" st_rises ["things"]) (D_is_ground : Def K mg "is_ground" st_is_ground ["thing"]) (D_is_point : Def K mg "is_point" st_is_point ["ground", "thing"]) (D_far : Def K mg "far" st_far ["one", "other"]) (D_is_road : Def K mg "is_road" st_is_road ["ground", "thing"]) (D_are_roads : Def K mg "are_roads" st_are_roads ["ground", "thing"]) (D_is_row : Def K mg "is_row" st_is_row ["ground", "thing"]) (D_points : Def K mg "points" st_points ["ground"]) (D_road_of : Def K mg "road_of" st_road_of ["one", "other"]) (D_look_at_ground : Def K mg "look_at_ground" st_look_at_ground ["ground"]) (D_look_at_roads : Def K mg "look_at_roads" st_look_at_roads ["ground", "roads"]) (D_look_at_row : Def K mg "look_at_row" st_look_at_row ["ground", "row"]) (D_steps : Def K mg "steps" st_steps ["ground", "roads", "point"]) (D_best_way : Def K mg "best_way" st_best_way ["ground", "roads", "row"]) (D_bounds_of : Def K mg "bounds_of" st_bounds_of ["ground", "roads", "heard", "ahead"]) (D_way_paper : Def K mg "way_paper" st_way_paper ["ground", "roads", "row"]) (D_are_pairs : Def K mg "are_pairs" st_are_pairs ["thing", "many"]) (D_way_shown : Def K mg "way_shown" st_way_shown ["ground", "roads", "row", "thing"]) (D__law_well : Def K mg "_law_well" st__law_well ["cell", "turn"]) (D__law_take : Def K mg "_law_take" st__law_take ["bag", "many"]) (D__law_bags : Def K mg "_law_bags" st__law_bags ["script", "most"]) (D__law_same : Def K mg "_law_same" st__law_same ["a", "b"]) (D__law_in : Def K mg "_law_in" st__law_in ["x", "low", "high"]) (D__law_all_roads : Def K mg "_law_all_roads" st__law_all_roads ["ground"]) (D__law_ground : Def K mg "_law_ground" st__law_ground ["bag", "most"]) (D__law_roads : Def K mg "_law_roads" st__law_roads ["bag", "ground"]) (D__law_point : Def K mg "_law_point" st__law_point ["bag", "ground"]) (D__law_row : Def K mg "_law_row" st__law_row ["bag", "ground", "most"]) (D__law_far : Def K mg "_law_far" st__law_far ["one", "other"]) (D__law_spots : Def K mg "_law_spots" st__law_spots ["ground"]) (D__law_off : Def K mg "_law_off" st__law_off ["roads", "one", "other"]) (D__law_bounds : Def K mg "_law_bounds" st__law_bounds ["ground", "roads", "heard", "ahead"]) (D__law_shown : Def K mg "_law_shown" st__law_shown ["ground", "roads", "row", "x"]) (D__law_bent : Def K mg "_law_bent" st__law_bent ["bag", "due"]) (g_MOST_SIDE : HG w K mg "MOST_SIDE" (.int 5)) (g_MOST_ROADS : HG w K mg "MOST_ROADS" (.int 40)) (g_MOST_ROW : HG w K mg "MOST_ROW" (.int 10)) (hb : ∀ x ∈ bnames, mg x = none) (hm : Maths) :
    ∃ fa fd, mg "law" = some (.ref fa) ∧ (∀ us : List Value, us.length = 1 → bindArgs fd ⟨us, []⟩ = pure ([("script" : Str)].zip us)) ∧ ∀ base : Heap, FnOk P w K mg base CX0 9 fa fd ["script"] (spLaw K) := by
  obtain ⟨own, fa, fd, e, F, bn⟩ := D_law.ex
  refine ⟨fa, fd, e, bn, fun base => ?_⟩
  have h_is_whole := w_is_whole (P := P) (w := w) (base := base) D_is_whole hb  
  have h_is_within := w_is_within (P := P) (w := w) (base := base) D_is_within hb (h_is_whole.mono (by decide)) 
  have h_rises := w_rises (P := P) (w := w) (base := base) D_rises hb  
  have h_is_ground := w_is_ground (P := P) (w := w) (base := base) D_is_ground hb (h_is_within.mono (by decide)) g_MOST_SIDE
  have h_is_point := w_is_point (P := P) (w := w) (base := base) D_is_point hb (h_is_within.mono (by decide)) 
  have h_far := w_far (P := P) (w := w) (base := base) D_far hb  
  have h_is_road := w_is_road (P := P) (w := w) (base := base) D_is_road hb (h_is_point.mono (by decide)) (h_far.mono (by decide)) 
  have h_are_roads := w_are_roads (P := P) (w := w) (base := base) D_are_roads hb (h_is_road.mono (by decide)) (h_rises.mono (by decide)) g_MOST_ROADS
  have h_is_row := w_is_row (P := P) (w := w) (base := base) D_is_row hb (h_is_point.mono (by decide)) g_MOST_ROW
  have h_points := w_points (P := P) (w := w) (base := base) D_points hb  
  have h_road_of := w_road_of (P := P) (w := w) (base := base) D_road_of hb  
  have h_look_at_ground := w_look_at_ground (P := P) (w := w) (base := base) D_look_at_ground hb (h_is_ground.mono (by decide)) 
  have h_look_at_roads := w_look_at_roads (P := P) (w := w) (base := base) D_look_at_roads hb (h_look_at_ground.mono (by decide)) (h_are_roads.mono (by decide)) 
  have h_look_at_row := w_look_at_row (P := P) (w := w) (base := base) D_look_at_row hb (h_is_row.mono (by decide)) 
  have h_steps := w_steps (P := P) (w := w) (base := base) D_steps hb (h_far.mono (by decide)) (h_road_of.mono (by decide)) (h_points.mono (by decide)) 
  have h_best_way := w_best_way (P := P) (w := w) (base := base) D_best_way hb (h_look_at_roads.mono (by decide)) (h_look_at_row.mono (by decide)) (h_far.mono (by decide)) (h_points.mono (by decide)) (h_steps.mono (by decide)) 
  have h_bounds_of := w_bounds_of (P := P) (w := w) (base := base) D_bounds_of hb (h_far.mono (by decide)) (h_points.mono (by decide)) (h_steps.mono (by decide)) 
  have h_way_paper := w_way_paper (P := P) (w := w) (base := base) D_way_paper hb (h_look_at_roads.mono (by decide)) (h_look_at_row.mono (by decide)) (h_bounds_of.mono (by decide)) 
  have h_are_pairs := w_are_pairs (P := P) (w := w) (base := base) D_are_pairs hb (h_is_whole.mono (by decide)) 
  have h_way_shown := w_way_shown (P := P) (w := w) (base := base) D_way_shown hb (h_look_at_roads.mono (by decide)) (h_look_at_row.mono (by decide)) (h_points.mono (by decide)) (h_are_pairs.mono (by decide)) (h_bounds_of.mono (by decide)) 
  have h__law_take := w__law_take (P := P) (w := w) (base := base) D__law_take hb  
  have h__law_same := w__law_same (P := P) (w := w) (base := base) D__law_same hb  
  have h__law_in := w__law_in (P := P) (w := w) (base := base) D__law_in hb  
  have h__law_all_roads := w__law_all_roads (P := P) (w := w) (base := base) D__law_all_roads hb  
  have h__law_ground := w__law_ground (P := P) (w := w) (base := base) D__law_ground hb (h__law_take.mono (by decide)) 
  have h__law_roads := w__law_roads (P := P) (w := w) (base := base) D__law_roads hb (h__law_take.mono (by decide)) (h__law_all_roads.mono (by decide)) 
  have h__law_point := w__law_point (P := P) (w := w) (base := base) D__law_point hb (h__law_take.mono (by decide)) 
  have h__law_row := w__law_row (P := P) (w := w) (base := base) D__law_row hb (h__law_take.mono (by decide)) (h__law_point.mono (by decide)) 
  have h__law_far := w__law_far (P := P) (w := w) (base := base) D__law_far hb  
  have h__law_spots := w__law_spots (P := P) (w := w) (base := base) D__law_spots hb  
  have h__law_off := w__law_off (P := P) (w := w) (base := base) D__law_off hb  
  have h__law_bounds := w__law_bounds (P := P) (w := w) (base := base) D__law_bounds hb (h__law_far.mono (by decide)) (h__law_off.mono (by decide)) (h__law_spots.mono (by decide)) 
  have h__law_shown := w__law_shown (P := P) (w := w) (base := base) D__law_shown hb (h__law_bounds.mono (by decide)) (h__law_in.mono (by decide)) 
  have h__law_bent := w__law_bent (P := P) (w := w) (base := base) D__law_bent hb (h__law_take.mono (by decide)) 
  have h_well := ok_well (P := P) (w := w) (base := base) D__law_well rfl rfl hb sc__law_well ok__law_well
  have h_bags := WM.ok_bags (P := P) (w := w) (base := base) D__law_bags rfl rfl hb sc__law_bags ok__law_bags rfl h_well
  have h__law_ground := h__law_ground.mono (show _ ≤ 8 by decide)
  have h__law_row := h__law_row.mono (show _ ≤ 8 by decide)
  have h__law_roads := h__law_roads.mono (show _ ≤ 8 by decide)
  have h__law_bounds := h__law_bounds.mono (show _ ≤ 8 by decide)
  have h_best_way := h_best_way.mono (show _ ≤ 8 by decide)
  have h__law_same := h__law_same.mono (show _ ≤ 8 by decide)
  have h_way_paper := h_way_paper.mono (show _ ≤ 8 by decide)
  have h__law_shown := h__law_shown.mono (show _ ≤ 8 by decide)
  have h_way_shown := h_way_shown.mono (show _ ≤ 8 by decide)
  have h__law_bent := h__law_bent.mono (show _ ≤ 8 by decide)
  refine WM.ok_law (k := 8) (ib := 1) (m := 5) F rfl hb sc_law ok_law (by decide) (by decide) (by decide) (by decide) ?_ h_bags hm
  unfold il_law; simp only [b_law_1, b_law_2, b_law_3, wfSs, wfS, wfE, wfEs, wfT, wfTs, wfIt, wfO, and_true, true_and]; (repeat (first | assumption | apply And.intro))

theorem all_mk {P : Program} {w : World} {K : PySem.W.Frag} {h : Heap} {mg : Str → Option Value} {fa : Addr} (X : K.In h) (G : h.Ns mainGlobals mg) (hfa : mg "law" = some (.ref fa)) (hm : Maths)
    {f0 : Addr} {oc0 kV0 dc0 pm0 cd0 ct0 : Value} {od0 an0 : Option Addr} {sl0 : Array (Option Value)} (a0 : PySem.W.nsIn K mainGlobals "law" = some (some (.ref f0))) (l0 : K.lookup f0 = some ⟨oc0, od0, .func (PySem.W.fnOf "law" "law" (defArgs st_law) (defBody st_law) (defScope st_law) .none kV0 dc0 pm0 an0 cd0 ct0), sl0⟩) (c0 : PySem.W.codeIn K cd0 "law" = true) (k0 : PySem.W.keepIn K (.ref f0) = true)
    {f1 : Addr} {oc1 kV1 dc1 pm1 cd1 ct1 : Value} {od1 an1 : Option Addr} {sl1 : Array (Option Value)} (a1 : PySem.W.nsIn K mainGlobals "is_whole" = some (some (.ref f1))) (l1 : K.lookup f1 = some ⟨oc1, od1, .func (PySem.W.fnOf "is_whole" "is_whole" (defArgs st_is_whole) (defBody st_is_whole) (defScope st_is_whole) .none kV1 dc1 pm1 an1 cd1 ct1), sl1⟩) (c1 : PySem.W.codeIn K cd1 "is_whole" = true) (k1 : PySem.W.keepIn K (.ref f1) = true)
    {f2 : Addr} {oc2 kV2 dc2 pm2 cd2 ct2 : Value} {od2 an2 : Option Addr} {sl2 : Array (Option Value)} (a2 : PySem.W.nsIn K mainGlobals "is_within" = some (some (.ref f2))) (l2 : K.lookup f2 = some ⟨oc2, od2, .func (PySem.W.fnOf "is_within" "is_within" (defArgs st_is_within) (defBody st_is_within) (defScope st_is_within) .none kV2 dc2 pm2 an2 cd2 ct2), sl2⟩) (c2 : PySem.W.codeIn K cd2 "is_within" = true) (k2 : PySem.W.keepIn K (.ref f2) = true)
    {f3 : Addr} {oc3 kV3 dc3 pm3 cd3 ct3 : Value} {od3 an3 : Option Addr} {sl3 : Array (Option Value)} (a3 : PySem.W.nsIn K mainGlobals "rises" = some (some (.ref f3))) (l3 : K.lookup f3 = some ⟨oc3, od3, .func (PySem.W.fnOf "rises" "rises" (defArgs st_rises) (defBody st_rises) (defScope st_rises) .none kV3 dc3 pm3 an3 cd3 ct3), sl3⟩) (c3 : PySem.W.codeIn K cd3 "rises" = true) (k3 : PySem.W.keepIn K (.ref f3) = true)
    {f4 : Addr} {oc4 kV4 dc4 pm4 cd4 ct4 : Value} {od4 an4 : Option Addr} {sl4 : Array (Option Value)} (a4 : PySem.W.nsIn K mainGlobals "is_ground" = some (some (.ref f4))) (l4 : K.lookup f4 = some ⟨oc4, od4, .func (PySem.W.fnOf "is_ground" "is_ground" (defArgs st_is_ground) (defBody st_is_ground) (defScope st_is_ground) .none kV4 dc4 pm4 an4 cd4 ct4), sl4⟩) (c4 : PySem.W.codeIn K cd4 "is_ground" = true) (k4 : PySem.W.keepIn K (.ref f4) = true)
    {f5 : Addr} {oc5 kV5 dc5 pm5 cd5 ct5 : Value} {od5 an5 : Option Addr} {sl5 : Array (Option Value)} (a5 : PySem.W.nsIn K mainGlobals "is_point" = some (some (.ref f5))) (l5 : K.lookup f5 = some ⟨oc5, od5, .func (PySem.W.fnOf "is_point" "is_point" (defArgs st_is_point) (defBody st_is_point) (defScope st_is_point) .none kV5 dc5 pm5 an5 cd5 ct5), sl5⟩) (c5 : PySem.W.codeIn K cd5 "is_point" = true) (k5 : PySem.W.keepIn K (.ref f5) = true)
    {f6 : Addr} {oc6 kV6 dc6 pm6 cd6 ct6 : Value} {od6 an6 : Option Addr} {sl6 : Array (Option Value)} (a6 : PySem.W.nsIn K mainGlobals "far" = some (some (.ref f6))) (l6 : K.lookup f6 = some ⟨oc6, od6, .func (PySem.W.fnOf "far" "far" (defArgs st_far) (defBody st_far) (defScope st_far) .none kV6 dc6 pm6 an6 cd6 ct6), sl6⟩) (c6 : PySem.W.codeIn K cd6 "far" = true) (k6 : PySem.W.keepIn K (.ref f6) = true)
    {f7 : Addr} {oc7 kV7 dc7 pm7 cd7 ct7 : Value} {od7 an7 : Option Addr} {sl7 : Array (Option Value)} (a7 : PySem.W.nsIn K mainGlobals "is_road" = some (some (.ref f7))) (l7 : K.lookup f7 = some ⟨oc7, od7, .func (PySem.W.fnOf "is_road" "is_road" (defArgs st_is_road) (defBody st_is_road) (defScope st_is_road) .none kV7 dc7 pm7 an7 cd7 ct7), sl7⟩) (c7 : PySem.W.codeIn K cd7 "is_road" = true) (k7 : PySem.W.keepIn K (.ref f7) = true)
    {f8 : Addr} {oc8 kV8 dc8 pm8 cd8 ct8 : Value} {od8 an8 : Option Addr} {sl8 : Array (Option Value)} (a8 : PySem.W.nsIn K mainGlobals "are_roads" = some (some (.ref f8))) (l8 : K.lookup f8 = some ⟨oc8, od8, .func (PySem.W.fnOf "are_roads" "are_roads" (defArgs st_are_roads) (defBody st_are_roads) (defScope st_are_roads) .none kV8 dc8 pm8 an8 cd8 ct8), sl8⟩) (c8 : PySem.W.codeIn K cd8 "are_roads" = true) (k8 : PySem.W.keepIn K (.ref f8) = true)
    {f9 : Addr} {oc9 kV9 dc9 pm9 cd9 ct9 : Value} {od9 an9 : Option Addr} {sl9 : Array (Option Value)} (a9 : PySem.W.nsIn K mainGlobals "is_row" = some (some (.ref f9))) (l9 : K.lookup f9 = some ⟨oc9, od9, .func (PySem.W.fnOf "is_row" "is_row" (defArgs st_is_row) (defBody st_is_row) (defScope st_is_row) .none kV9 dc9 pm9 an9 cd9 ct9), sl9⟩) (c9 : PySem.W.codeIn K cd9 "is_row" = true) (k9 : PySem.W.keepIn K (.ref f9) = true)
    {f10 : Addr} {oc10 kV10 dc10 pm10 cd10 ct10 : Value} {od10 an10 : Option Addr} {sl10 : Array (Option Value)} (a10 : PySem.W.nsIn K mainGlobals "points" = some (some (.ref f10))) (l10 : K.lookup f10 = some ⟨oc10, od10, .func (PySem.W.fnOf "points" "points" (defArgs st_points) (defBody st_points) (defScope st_points) .none kV10 dc10 pm10 an10 cd10 ct10), sl10⟩) (c10 : PySem.W.codeIn K cd10 "points" = true) (k10 : PySem.W.keepIn K (.ref f10) = true)
    {f11 : Addr} {oc11 kV11 dc11 pm11 cd11 ct11 : Value} {od11 an11 : Option Addr} {sl11 : Array (Option Value)} (a11 : PySem.W.nsIn K mainGlobals "road_of" = some (some (.ref f11))) (l11 : K.lookup f11 = some ⟨oc11, od11, .func (PySem.W.fnOf "road_of" "road_of" (defArgs st_road_of) (defBody st_road_of) (defScope st_road_of) .none kV11 dc11 pm11 an11 cd11 ct11), sl11⟩) (c11 : PySem.W.codeIn K cd11 "road_of" = true) (k11 : PySem.W.keepIn K (.ref f11) = true)
    {f12 : Addr} {oc12 kV12 dc12 pm12 cd12 ct12 : Value} {od12 an12 : Option Addr} {sl12 : Array (Option Value)} (a12 : PySem.W.nsIn K mainGlobals "look_at_ground" = some (some (.ref f12))) (l12 : K.lookup f12 = some ⟨oc12, od12, .func (PySem.W.fnOf "look_at_ground" "look_at_ground" (defArgs st_look_at_ground) (defBody st_look_at_ground) (defScope st_look_at_ground) .none kV12 dc12 pm12 an12 cd12 ct12), sl12⟩) (c12 : PySem.W.codeIn K cd12 "look_at_ground" = true) (k12 : PySem.W.keepIn K (.ref f12) = true)
    {f13 : Addr} {oc13 kV13 dc13 pm13 cd13 ct13 : Value} {od13 an13 : Option Addr} {sl13 : Array (Option Value)} (a13 : PySem.W.nsIn K mainGlobals "look_at_roads" = some (some (.ref f13))) (l13 : K.lookup f13 = some ⟨oc13, od13, .func (PySem.W.fnOf "look_at_roads" "look_at_roads" (defArgs st_look_at_roads) (defBody st_look_at_roads) (defScope st_look_at_roads) .none kV13 dc13 pm13 an13 cd13 ct13), sl13⟩) (c13 : PySem.W.codeIn K cd13 "look_at_roads" = true) (k13 : PySem.W.keepIn K (.ref f13) = true)
    {f14 : Addr} {oc14 kV14 dc14 pm14 cd14 ct14 : Value} {od14 an14 : Option Addr} {sl14 : Array (Option Value)} (a14 : PySem.W.nsIn K mainGlobals "look_at_row" = some (some (.ref f14))) (l14 : K.lookup f14 = some ⟨oc14, od14, .func (PySem.W.fnOf "look_at_row" "look_at_row" (defArgs st_look_at_row) (defBody st_look_at_row) (defScope st_look_at_row) .none kV14 dc14 pm14 an14 cd14 ct14), sl14⟩) (c14 : PySem.W.codeIn K cd14 "look_at_row" = true) (k14 : PySem.W.keepIn K (.ref f14) = true)
    {f15 : Addr} {oc15 kV15 dc15 pm15 cd15 ct15 : Value} {od15 an15 : Option Addr} {sl15 : Array (Option Value)} (a15 : PySem.W.nsIn K mainGlobals "steps" = some (some (.ref f15))) (l15 : K.lookup f15 = some ⟨oc15, od15, .func (PySem.W.fnOf "steps" "steps" (defArgs st_steps) (defBody st_steps) (defScope st_steps) .none kV15 dc15 pm15 an15 cd15 ct15), sl15⟩) (c15 : PySem.W.codeIn K cd15 "steps" = true) (k15 : PySem.W.keepIn K (.ref f15) = true)
    {f16 : Addr} {oc16 kV16 dc16 pm16 cd16 ct16 : Value} {od16 an16 : Option Addr} {sl16 : Array (Option Value)} (a16 : PySem.W.nsIn K mainGlobals "best_way" = some (some (.ref f16))) (l16 : K.lookup f16 = some ⟨oc16, od16, .func (PySem.W.fnOf "best_way" "best_way" (defArgs st_best_way) (defBody st_best_way) (defScope st_best_way) .none kV16 dc16 pm16 an16 cd16 ct16), sl16⟩) (c16 : PySem.W.codeIn K cd16 "best_way" = true) (k16 : PySem.W.keepIn K (.ref f16) = true)
    {f17 : Addr} {oc17 kV17 dc17 pm17 cd17 ct17 : Value} {od17 an17 : Option Addr} {sl17 : Array (Option Value)} (a17 : PySem.W.nsIn K mainGlobals "bounds_of" = some (some (.ref f17))) (l17 : K.lookup f17 = some ⟨oc17, od17, .func (PySem.W.fnOf "bounds_of" "bounds_of" (defArgs st_bounds_of) (defBody st_bounds_of) (defScope st_bounds_of) .none kV17 dc17 pm17 an17 cd17 ct17), sl17⟩) (c17 : PySem.W.codeIn K cd17 "bounds_of" = true) (k17 : PySem.W.keepIn K (.ref f17) = true)
    {f18 : Addr} {oc18 kV18 dc18 pm18 cd18 ct18 : Value} {od18 an18 : Option Addr} {sl18 : Array (Option Value)} (a18 : PySem.W.nsIn K mainGlobals "way_paper" = some (some (.ref f18))) (l18 : K.lookup f18 = some ⟨oc18, od18, .func (PySem.W.fnOf "way_paper" "way_paper" (defArgs st_way_paper) (defBody st_way_paper) (defScope st_way_paper) .none kV18 dc18 pm18 an18 cd18 ct18), sl18⟩) (c18 : PySem.W.codeIn K cd18 "way_paper" = true) (k18 : PySem.W.keepIn K (.ref f18) = true)
    {f19 : Addr} {oc19 kV19 dc19 pm19 cd19 ct19 : Value} {od19 an19 : Option Addr} {sl19 : Array (Option Value)} (a19 : PySem.W.nsIn K mainGlobals "are_pairs" = some (some (.ref f19))) (l19 : K.lookup f19 = some ⟨oc19, od19, .func (PySem.W.fnOf "are_pairs" "are_pairs" (defArgs st_are_pairs) (defBody st_are_pairs) (defScope st_are_pairs) .none kV19 dc19 pm19 an19 cd19 ct19), sl19⟩) (c19 : PySem.W.codeIn K cd19 "are_pairs" = true) (k19 : PySem.W.keepIn K (.ref f19) = true)
    {f20 : Addr} {oc20 kV20 dc20 pm20 cd20 ct20 : Value} {od20 an20 : Option Addr} {sl20 : Array (Option Value)} (a20 : PySem.W.nsIn K mainGlobals "way_shown" = some (some (.ref f20))) (l20 : K.lookup f20 = some ⟨oc20, od20, .func (PySem.W.fnOf "way_shown" "way_shown" (defArgs st_way_shown) (defBody st_way_shown) (defScope st_way_shown) .none kV20 dc20 pm20 an20 cd20 ct20), sl20⟩) (c20 : PySem.W.codeIn K cd20 "way_shown" = true) (k20 : PySem.W.keepIn K (.ref f20) = true)
    {f21 : Addr} {oc21 kV21 dc21 pm21 cd21 ct21 : Value} {od21 an21 : Option Addr} {sl21 : Array (Option Value)} (a21 : PySem.W.nsIn K mainGlobals "_law_well" = some (some (.ref f21))) (l21 : K.lookup f21 = some ⟨oc21, od21, .func (PySem.W.fnOf "_law_well" "_law_well" (defArgs st__law_well) (defBody st__law_well) (defScope st__law_well) .none kV21 dc21 pm21 an21 cd21 ct21), sl21⟩) (c21 : PySem.W.codeIn K cd21 "_law_well" = true) (k21 : PySem.W.keepIn K (.ref f21) = true)
    {f22 : Addr} {oc22 kV22 dc22 pm22 cd22 ct22 : Value} {od22 an22 : Option Addr} {sl22 : Array (Option Value)} (a22 : PySem.W.nsIn K mainGlobals "_law_take" = some (some (.ref f22))) (l22 : K.lookup f22 = some ⟨oc22, od22, .func (PySem.W.fnOf "_law_take" "_law_take" (defArgs st__law_take) (defBody st__law_take) (defScope st__law_take) .none kV22 dc22 pm22 an22 cd22 ct22), sl22⟩) (c22 : PySem.W.codeIn K cd22 "_law_take" = true) (k22 : PySem.W.keepIn K (.ref f22) = true)
    {f23 : Addr} {oc23 kV23 dc23 pm23 cd23 ct23 : Value} {od23 an23 : Option Addr} {sl23 : Array (Option Value)} (a23 : PySem.W.nsIn K mainGlobals "_law_bags" = some (some (.ref f23))) (l23 : K.lookup f23 = some ⟨oc23, od23, .func (PySem.W.fnOf "_law_bags" "_law_bags" (defArgs st__law_bags) (defBody st__law_bags) (defScope st__law_bags) .none kV23 dc23 pm23 an23 cd23 ct23), sl23⟩) (c23 : PySem.W.codeIn K cd23 "_law_bags" = true) (k23 : PySem.W.keepIn K (.ref f23) = true)
    {f24 : Addr} {oc24 kV24 dc24 pm24 cd24 ct24 : Value} {od24 an24 : Option Addr} {sl24 : Array (Option Value)} (a24 : PySem.W.nsIn K mainGlobals "_law_same" = some (some (.ref f24))) (l24 : K.lookup f24 = some ⟨oc24, od24, .func (PySem.W.fnOf "_law_same" "_law_same" (defArgs st__law_same) (defBody st__law_same) (defScope st__law_same) .none kV24 dc24 pm24 an24 cd24 ct24), sl24⟩) (c24 : PySem.W.codeIn K cd24 "_law_same" = true) (k24 : PySem.W.keepIn K (.ref f24) = true)
    {f25 : Addr} {oc25 kV25 dc25 pm25 cd25 ct25 : Value} {od25 an25 : Option Addr} {sl25 : Array (Option Value)} (a25 : PySem.W.nsIn K mainGlobals "_law_in" = some (some (.ref f25))) (l25 : K.lookup f25 = some ⟨oc25, od25, .func (PySem.W.fnOf "_law_in" "_law_in" (defArgs st__law_in) (defBody st__law_in) (defScope st__law_in) .none kV25 dc25 pm25 an25 cd25 ct25), sl25⟩) (c25 : PySem.W.codeIn K cd25 "_law_in" = true) (k25 : PySem.W.keepIn K (.ref f25) = true)
    {f26 : Addr} {oc26 kV26 dc26 pm26 cd26 ct26 : Value} {od26 an26 : Option Addr} {sl26 : Array (Option Value)} (a26 : PySem.W.nsIn K mainGlobals "_law_all_roads" = some (some (.ref f26))) (l26 : K.lookup f26 = some ⟨oc26, od26, .func (PySem.W.fnOf "_law_all_roads" "_law_all_roads" (defArgs st__law_all_roads) (defBody st__law_all_roads) (defScope st__law_all_roads) .none kV26 dc26 pm26 an26 cd26 ct26), sl26⟩) (c26 : PySem.W.codeIn K cd26 "_law_all_roads" = true) (k26 : PySem.W.keepIn K (.ref f26) = true)
    {f27 : Addr} {oc27 kV27 dc27 pm27 cd27 ct27 : Value} {od27 an27 : Option Addr} {sl27 : Array (Option Value)} (a27 : PySem.W.nsIn K mainGlobals "_law_ground" = some (some (.ref f27))) (l27 : K.lookup f27 = some ⟨oc27, od27, .func (PySem.W.fnOf "_law_ground" "_law_ground" (defArgs st__law_ground) (defBody st__law_ground) (defScope st__law_ground) .none kV27 dc27 pm27 an27 cd27 ct27), sl27⟩) (c27 : PySem.W.codeIn K cd27 "_law_ground" = true) (k27 : PySem.W.keepIn K (.ref f27) = true)
    {f28 : Addr} {oc28 kV28 dc28 pm28 cd28 ct28 : Value} {od28 an28 : Option Addr} {sl28 : Array (Option Value)} (a28 : PySem.W.nsIn K mainGlobals "_law_roads" = some (some (.ref f28))) (l28 : K.lookup f28 = some ⟨oc28, od28, .func (PySem.W.fnOf "_law_roads" "_law_roads" (defArgs st__law_roads) (defBody st__law_roads) (defScope st__law_roads) .none kV28 dc28 pm28 an28 cd28 ct28), sl28⟩) (c28 : PySem.W.codeIn K cd28 "_law_roads" = true) (k28 : PySem.W.keepIn K (.ref f28) = true)
    {f29 : Addr} {oc29 kV29 dc29 pm29 cd29 ct29 : Value} {od29 an29 : Option Addr} {sl29 : Array (Option Value)} (a29 : PySem.W.nsIn K mainGlobals "_law_point" = some (some (.ref f29))) (l29 : K.lookup f29 = some ⟨oc29, od29, .func (PySem.W.fnOf "_law_point" "_law_point" (defArgs st__law_point) (defBody st__law_point) (defScope st__law_point) .none kV29 dc29 pm29 an29 cd29 ct29), sl29⟩) (c29 : PySem.W.codeIn K cd29 "_law_point" = true) (k29 : PySem.W.keepIn K (.ref f29) = true)
    {f30 : Addr} {oc30 kV30 dc30 pm30 cd30 ct30 : Value} {od30 an30 : Option Addr} {sl30 : Array (Option Value)} (a30 : PySem.W.nsIn K mainGlobals "_law_row" = some (some (.ref f30))) (l30 : K.lookup f30 = some ⟨oc30, od30, .func (PySem.W.fnOf "_law_row" "_law_row" (defArgs st__law_row) (defBody st__law_row) (defScope st__law_row) .none kV30 dc30 pm30 an30 cd30 ct30), sl30⟩) (c30 : PySem.W.codeIn K cd30 "_law_row" = true) (k30 : PySem.W.keepIn K (.ref f30) = true)
    {f31 : Addr} {oc31 kV31 dc31 pm31 cd31 ct31 : Value} {od31 an31 : Option Addr} {sl31 : Array (Option Value)} (a31 : PySem.W.nsIn K mainGlobals "_law_far" = some (some (.ref f31))) (l31 : K.lookup f31 = some ⟨oc31, od31, .func (PySem.W.fnOf "_law_far" "_law_far" (defArgs st__law_far) (defBody st__law_far) (defScope st__law_far) .none kV31 dc31 pm31 an31 cd31 ct31), sl31⟩) (c31 : PySem.W.codeIn K cd31 "_law_far" = true) (k31 : PySem.W.keepIn K (.ref f31) = true)
    {f32 : Addr} {oc32 kV32 dc32 pm32 cd32 ct32 : Value} {od32 an32 : Option Addr} {sl32 : Array (Option Value)} (a32 : PySem.W.nsIn K mainGlobals "_law_spots" = some (some (.ref f32))) (l32 : K.lookup f32 = some ⟨oc32, od32, .func (PySem.W.fnOf "_law_spots" "_law_spots" (defArgs st__law_spots) (defBody st__law_spots) (defScope st__law_spots) .none kV32 dc32 pm32 an32 cd32 ct32), sl32⟩) (c32 : PySem.W.codeIn K cd32 "_law_spots" = true) (k32 : PySem.W.keepIn K (.ref f32) = true)
    {f33 : Addr} {oc33 kV33 dc33 pm33 cd33 ct33 : Value} {od33 an33 : Option Addr} {sl33 : Array (Option Value)} (a33 : PySem.W.nsIn K mainGlobals "_law_off" = some (some (.ref f33))) (l33 : K.lookup f33 = some ⟨oc33, od33, .func (PySem.W.fnOf "_law_off" "_law_off" (defArgs st__law_off) (defBody st__law_off) (defScope st__law_off) .none kV33 dc33 pm33 an33 cd33 ct33), sl33⟩) (c33 : PySem.W.codeIn K cd33 "_law_off" = true) (k33 : PySem.W.keepIn K (.ref f33) = true)
    {f34 : Addr} {oc34 kV34 dc34 pm34 cd34 ct34 : Value} {od34 an34 : Option Addr} {sl34 : Array (Option Value)} (a34 : PySem.W.nsIn K mainGlobals "_law_bounds" = some (some (.ref f34))) (l34 : K.lookup f34 = some ⟨oc34, od34, .func (PySem.W.fnOf "_law_bounds" "_law_bounds" (defArgs st__law_bounds) (defBody st__law_bounds) (defScope st__law_bounds) .none kV34 dc34 pm34 an34 cd34 ct34), sl34⟩) (c34 : PySem.W.codeIn K cd34 "_law_bounds" = true) (k34 : PySem.W.keepIn K (.ref f34) = true)
    {f35 : Addr} {oc35 kV35 dc35 pm35 cd35 ct35 : Value} {od35 an35 : Option Addr} {sl35 : Array (Option Value)} (a35 : PySem.W.nsIn K mainGlobals "_law_shown" = some (some (.ref f35))) (l35 : K.lookup f35 = some ⟨oc35, od35, .func (PySem.W.fnOf "_law_shown" "_law_shown" (defArgs st__law_shown) (defBody st__law_shown) (defScope st__law_shown) .none kV35 dc35 pm35 an35 cd35 ct35), sl35⟩) (c35 : PySem.W.codeIn K cd35 "_law_shown" = true) (k35 : PySem.W.keepIn K (.ref f35) = true)
    {f36 : Addr} {oc36 kV36 dc36 pm36 cd36 ct36 : Value} {od36 an36 : Option Addr} {sl36 : Array (Option Value)} (a36 : PySem.W.nsIn K mainGlobals "_law_bent" = some (some (.ref f36))) (l36 : K.lookup f36 = some ⟨oc36, od36, .func (PySem.W.fnOf "_law_bent" "_law_bent" (defArgs st__law_bent) (defBody st__law_bent) (defScope st__law_bent) .none kV36 dc36 pm36 an36 cd36 ct36), sl36⟩) (c36 : PySem.W.codeIn K cd36 "_law_bent" = true) (k36 : PySem.W.keepIn K (.ref f36) = true)
    {tk0 : Tok} (b0 : PySem.W.nsIn K mainGlobals "MOST_SIDE" = some (some (.int 5 tk0)))
    {tk1 : Tok} (b1 : PySem.W.nsIn K mainGlobals "MOST_ROADS" = some (some (.int 40 tk1)))
    {tk2 : Tok} (b2 : PySem.W.nsIn K mainGlobals "MOST_ROW" = some (some (.int 10 tk2)))
    (z0 : PySem.W.nsIn K mainGlobals "len" = some none)
    (z1 : PySem.W.nsIn K mainGlobals "min" = some none)
    (z2 : PySem.W.nsIn K mainGlobals "max" = some none)
    (z3 : PySem.W.nsIn K mainGlobals "sum" = some none)
    (z4 : PySem.W.nsIn K mainGlobals "sorted" = some none)
    (z5 : PySem.W.nsIn K mainGlobals "tuple" = some none)
    (z6 : PySem.W.nsIn K mainGlobals "list" = some none)
    (z7 : PySem.W.nsIn K mainGlobals "int" = some none)
    (z8 : PySem.W.nsIn K mainGlobals "abs" = some none)
    (z9 : PySem.W.nsIn K mainGlobals "all" = some none)
    (z10 : PySem.W.nsIn K mainGlobals "any" = some none)
    (z11 : PySem.W.nsIn K mainGlobals "set" = some none)
    (z12 : PySem.W.nsIn K mainGlobals "isinstance" = some none)
    (z13 : PySem.W.nsIn K mainGlobals "bool" = some none)
    (z14 : PySem.W.nsIn K mainGlobals "str" = some none)
    (z15 : PySem.W.nsIn K mainGlobals "range" = some none)
    (z16 : PySem.W.nsIn K mainGlobals "zip" = some none)
    (z17 : PySem.W.nsIn K mainGlobals "enumerate" = some none)
    (z18 : PySem.W.nsIn K mainGlobals "dict" = some none)
    : ∃ fd : FuncData, (∀ (s : Shared) (u : Value), BindsTo s fd ⟨[u], []⟩ [("script", u)]) ∧ ∀ base : Heap, K.In base → base.Ns mainGlobals mg → FnOk P w K mg base CX0 9 fa fd ["script"] (spLaw K) := by
  have D_law : Def K mg "law" st_law ["script"] := def_mk X G a0 l0 c0 k0 (fun _ _ _ _ _ _ us hl => match us, hl with | [_], _ => rfl)
  have D_is_whole : Def K mg "is_whole" st_is_whole ["thing"] := def_mk X G a1 l1 c1 k1 (fun _ _ _ _ _ _ us hl => match us, hl with | [_], _ => rfl)
  have D_is_within : Def K mg "is_within" st_is_within ["thing", "low", "high"] := def_mk X G a2 l2 c2 k2 (fun _ _ _ _ _ _ us hl => match us, hl with | [_, _, _], _ => rfl)
  have D_rises : Def K mg "rises" st_rises ["things"] := def_mk X G a3 l3 c3 k3 (fun _ _ _ _ _ _ us hl => match us, hl with | [_], _ => rfl)
  have D_is_ground : Def K mg "is_ground" st_is_ground ["thing"] := def_mk X G a4 l4 c4 k4 (fun _ _ _ _ _ _ us hl => match us, hl with | [_], _ => rfl)
  have D_is_point : Def K mg "is_point" st_is_point ["ground", "thing"] := def_mk X G a5 l5 c5 k5 (fun _ _ _ _ _ _ us hl => match us, hl with | [_, _], _ => rfl)
  have D_far : Def K mg "far" st_far ["one", "other"] := def_mk X G a6 l6 c6 k6 (fun _ _ _ _ _ _ us hl => match us, hl with | [_, _], _ => rfl)
  have D_is_road : Def K mg "is_road" st_is_road ["ground", "thing"] := def_mk X G a7 l7 c7 k7 (fun _ _ _ _ _ _ us hl => match us, hl with | [_, _], _ => rfl)
  have D_are_roads : Def K mg "are_roads" st_are_roads ["ground", "thing"] := def_mk X G a8 l8 c8 k8 (fun _ _ _ _ _ _ us hl => match us, hl with | [_, _], _ => rfl)
  have D_is_row : Def K mg "is_row" st_is_row ["ground", "thing"] := def_mk X G a9 l9 c9 k9 (fun _ _ _ _ _ _ us hl => match us, hl with | [_, _], _ => rfl)
  have D_points : Def K mg "points" st_points ["ground"] := def_mk X G a10 l10 c10 k10 (fun _ _ _ _ _ _ us hl => match us, hl with | [_], _ => rfl)
  have D_road_of : Def K mg "road_of" st_road_of ["one", "other"] := def_mk X G a11 l11 c11 k11 (fun _ _ _ _ _ _ us hl => match us, hl with | [_, _], _ => rfl)
  have D_look_at_ground : Def K mg "look_at_ground" st_look_at_ground ["ground"] := def_mk X G a12 l12 c12 k12 (fun _ _ _ _ _ _ us hl => match us, hl with | [_], _ => rfl)
  have D_look_at_roads : Def K mg "look_at_roads" st_look_at_roads ["ground", "roads"] := def_mk X G a13 l13 c13 k13 (fun _ _ _ _ _ _ us hl => match us, hl with | [_, _], _ => rfl)
  have D_look_at_row : Def K mg "look_at_row" st_look_at_row ["ground", "row"] := def_mk X G a14 l14 c14 k14 (fun _ _ _ _ _ _ us hl => match us, hl with | [_, _], _ => rfl)
  have D_steps : Def K mg "steps" st_steps ["ground", "roads", "point"] := def_mk X G a15 l15 c15 k15 (fun _ _ _ _ _ _ us hl => match us, hl with | [_, _, _], _ => rfl)
  have D_best_way : Def K mg "best_way" st_best_way ["ground", "roads", "row"] := def_mk X G a16 l16 c16 k16 (fun _ _ _ _ _ _ us hl => match us, hl with | [_, _, _], _ => rfl)
  have D_bounds_of : Def K mg "bounds_of" st_bounds_of ["ground", "roads", "heard", "ahead"] := def_mk X G a17 l17 c17 k17 (fun _ _ _ _ _ _ us hl => match us, hl with | [_, _, _, _], _ => rfl)
  have D_way_paper : Def K mg "way_paper" st_way_paper ["ground", "roads", "row"] := def_mk X G a18 l18 c18 k18 (fun _ _ _ _ _ _ us hl => match us, hl with | [_, _, _], _ => rfl)
  have D_are_pairs : Def K mg "are_pairs" st_are_pairs ["thing", "many"] := def_mk X G a19 l19 c19 k19 (fun _ _ _ _ _ _ us hl => match us, hl with | [_, _], _ => rfl)
  have D_way_shown : Def K mg "way_shown" st_way_shown ["ground", "roads", "row", "thing"] := def_mk X G a20 l20 c20 k20 (fun _ _ _ _ _ _ us hl => match us, hl with | [_, _, _, _], _ => rfl)
  have D__law_well : Def K mg "_law_well" st__law_well ["cell", "turn"] := def_mk X G a21 l21 c21 k21 (fun _ _ _ _ _ _ us hl => match us, hl with | [_, _], _ => rfl)
  have D__law_take : Def K mg "_law_take" st__law_take ["bag", "many"] := def_mk X G a22 l22 c22 k22 (fun _ _ _ _ _ _ us hl => match us, hl with | [_, _], _ => rfl)
  have D__law_bags : Def K mg "_law_bags" st__law_bags ["script", "most"] := def_mk X G a23 l23 c23 k23 (fun _ _ _ _ _ _ us hl => match us, hl with | [_, _], _ => rfl)
  have D__law_same : Def K mg "_law_same" st__law_same ["a", "b"] := def_mk X G a24 l24 c24 k24 (fun _ _ _ _ _ _ us hl => match us, hl with | [_, _], _ => rfl)
  have D__law_in : Def K mg "_law_in" st__law_in ["x", "low", "high"] := def_mk X G a25 l25 c25 k25 (fun _ _ _ _ _ _ us hl => match us, hl with | [_, _, _], _ => rfl)
  have D__law_all_roads : Def K mg "_law_all_roads" st__law_all_roads ["ground"] := def_mk X G a26 l26 c26 k26 (fun _ _ _ _ _ _ us hl => match us, hl with | [_], _ => rfl)
  have D__law_ground : Def K mg "_law_ground" st__law_ground ["bag", "most"] := def_mk X G a27 l27 c27 k27 (fun _ _ _ _ _ _ us hl => match us, hl with | [_, _], _ => rfl)
  have D__law_roads : Def K mg "_law_roads" st__law_roads ["bag", "ground"] := def_mk X G a28 l28 c28 k28 (fun _ _ _ _ _ _ us hl => match us, hl with | [_, _], _ => rfl)
  have D__law_point : Def K mg "_law_point" st__law_point ["bag", "ground"] := def_mk X G a29 l29 c29 k29 (fun _ _ _ _ _ _ us hl => match us, hl with | [_, _], _ => rfl)
  have D__law_row : Def K mg "_law_row" st__law_row ["bag", "ground", "most"] := def_mk X G a30 l30 c30 k30 (fun _ _ _ _ _ _ us hl => match us, hl with | [_, _, _], _ => rfl)
  have D__law_far : Def K mg "_law_far" st__law_far ["one", "other"] := def_mk X G a31 l31 c31 k31 (fun _ _ _ _ _ _ us hl => match us, hl with | [_, _], _ => rfl)
  have D__law_spots : Def K mg "_law_spots" st__law_spots ["ground"] := def_mk X G a32 l32 c32 k32 (fun _ _ _ _ _ _ us hl => match us, hl with | [_], _ => rfl)
  have D__law_off : Def K mg "_law_off" st__law_off ["roads", "one", "other"] := def_mk X G a33 l33 c33 k33 (fun _ _ _ _ _ _ us hl => match us, hl with | [_, _, _], _ => rfl)
  have D__law_bounds : Def K mg "_law_bounds" st__law_bounds ["ground", "roads", "heard", "ahead"] := def_mk X G a34 l34 c34 k34 (fun _ _ _ _ _ _ us hl => match us, hl with | [_, _, _, _], _ => rfl)
  have D__law_shown : Def K mg "_law_shown" st__law_shown ["ground", "roads", "row", "x"] := def_mk X G a35 l35 c35 k35 (fun _ _ _ _ _ _ us hl => match us, hl with | [_, _, _, _], _ => rfl)
  have D__law_bent : Def K mg "_law_bent" st__law_bent ["bag", "due"] := def_mk X G a36 l36 c36 k36 (fun _ _ _ _ _ _ us hl => match us, hl with | [_, _], _ => rfl)
  have g_MOST_SIDE := glob_int (w := w) X G b0
  have g_MOST_ROADS := glob_int (w := w) X G b1
  have g_MOST_ROW := glob_int (w := w) X G b2
  have hb : ∀ x ∈ bnames, mg x = none := fun x hx => by
    simp only [bnames, List.mem_cons, List.not_mem_nil, or_false] at hx
    rcases hx with rfl | rfl | rfl | rfl | rfl | rfl | rfl | rfl | rfl | rfl | rfl | rfl | rfl | rfl | rfl | rfl | rfl | rfl | rfl
    · exact PySem.W.mg_none_of X G z0
    · exact PySem.W.mg_none_of X G z1
    · exact PySem.W.mg_none_of X G z2
    · exact PySem.W.mg_none_of X G z3
    · exact PySem.W.mg_none_of X G z4
    · exact PySem.W.mg_none_of X G z5
    · exact PySem.W.mg_none_of X G z6
    · exact PySem.W.mg_none_of X G z7
    · exact PySem.W.mg_none_of X G z8
    · exact PySem.W.mg_none_of X G z9
    · exact PySem.W.mg_none_of X G z10
    · exact PySem.W.mg_none_of X G z11
    · exact PySem.W.mg_none_of X G z12
    · exact PySem.W.mg_none_of X G z13
    · exact PySem.W.mg_none_of X G z14
    · exact PySem.W.mg_none_of X G z15
    · exact PySem.W.mg_none_of X G z16
    · exact PySem.W.mg_none_of X G z17
    · exact PySem.W.mg_none_of X G z18
  obtain ⟨fa', fd, e, bn, F⟩ := walk (P := P) (w := w) D_law D_is_whole D_is_within D_rises D_is_ground D_is_point D_far D_is_road D_are_roads D_is_row D_points D_road_of D_look_at_ground D_look_at_roads D_look_at_row D_steps D_best_way D_bounds_of D_way_paper D_are_pairs D_way_shown D__law_well D__law_take D__law_bags D__law_same D__law_in D__law_all_roads D__law_ground D__law_roads D__law_point D__law_row D__law_far D__law_spots D__law_off D__law_bounds D__law_shown D__law_bent g_MOST_SIDE g_MOST_ROADS g_MOST_ROW hb hm
  rw [hfa] at e; cases e
  exact ⟨fd, fun s u => .of_eq (bn [u] rfl), fun base _ _ => F base⟩

end K04
set_option Elab.async false
set_option linter.all false
set_option maxRecDepth 100000
set_option maxHeartbeats 4000000
/-! K04m: the law, in plain Lean. -/
namespace K04
open PySem PySem.W WM WM.Pr

theorem due_loop {g : Pt} (hg : okGround g) (R : List Rd) (B : SV) (rw_ : D) : ∀ (hs : List Pt) (o : Option PF) (acc : List D), acc.length + hs.length ≤ 1000 →
    ∃ x, loopGo (lpF (.nm 5) b_law_1 [5]) (hs.map pt) [.un, B, .d (pt g), .ol acc, .d (aheadT g o), .un, .un, .un, .un, .un, .d (rds R), .d rw_, .un, .un] = some (.nx, [.un, B, .d (pt g), .ol (acc ++ (papA g R o hs).map (linT g)), .d x, .un, .un, .un, .un, .un, .d (rds R), .d rw_, .un, .un])
  | [], o, acc, _ => ⟨aheadT g o, by simp only [List.map_nil, loopGo, papA, List.append_nil]⟩
  | h :: hs, o, acc, hl => by
    rw [List.length_cons] at hl
    have L : lenOk acc = true := decide_eq_true (by omega)
    obtain ⟨x, ih⟩ := due_loop hg R B rw_ hs (some (nextA g R h o)) (acc ++ [linT g (nextA g R h o)]) (by rw [List.length_append]; simp; omega)
    refine ⟨x, ?_⟩
    have t : lpF (.nm 5) b_law_1 [5] (pt h) [.un, B, .d (pt g), .ol acc, .d (aheadT g o), .un, .un, .un, .un, .un, .d (rds R), .d rw_, .un, .un] = some (.nx, [.un, B, .d (pt g), .ol (acc ++ [linT g (nextA g R h o)]), .d (aheadT g (some (nextA g R h o))), .un, .un, .un, .un, .un, .d (rds R), .d rw_, .un, .un]) := by
      rw [lpF_eq]
      simp only [b_law_1, denSs, dS_asg, dS_asgO, dS_asgD, dS_asgT, dS_par, dS_app, dS_put, dS_ret, dS_ite, dS_exp, dS_setB, denT, denTs, dE_var, dE_glo, dE_int, dE_str, dE_bl, dE_non, dE_tup, dE_lst, dE_bin, dE_neg, dE_cmp, dE_chn, dE_and, dE_or, dE_nt, dE_ite, dE_call, dE_callB, dE_fn, dE_fn2, dE_max3, dE_isi, dE_idx, dE_cut, dE_step, dE_index, dE_oIdx, dE_oIn, dE_oGet, dE_oLen, dE_oCmp, dE_sortK, dE_lc, dE_lc2, dE_dc, denEs, denO, denIt, rdVar, isOwn, isOl, isOd, WM.storeAll, bindT, wipeE, backE, plainSlot, walked, items, truth, asInt, outOf, List.getElem?_cons_zero, List.getElem?_cons_succ, List.set_cons_zero, List.set_cons_succ, Option.bind_some, Option.map_some, List.map_cons, List.map_nil, List.all_cons, List.all_nil, Bool.and_true, Bool.true_and, if_true, Bool.false_eq_true, if_false, law_bounds hg, L]
      rfl
    rw [List.map_cons]
    simp only [loopGo]
    rw [t, Option.bind_some]
    show loopGo _ _ _ = _
    rw [ih]
    simp only [papA, List.map_cons, List.append_assoc]
    rfl
theorem ne_ptP (a b : Int × Int) : evCmp .ne (pt a) (pt b) = some (decide (a ≠ b)) := ne_pt a b
theorem maths : Maths := by
  intro ns hns i c hc
  have hi : i ≤ 63 := by
    have := (List.getElem?_eq_some_iff.mp hc).1
    rw [List.length_append, List.length_take] at this
    have e5 : Int.toNat 5 = 5 := rfl
    simp only [List.length_cons, List.length_nil] at this
    omega
  have B0 := wellI_ok (c := c) hi
  generalize hbag : (wellI c (977 * i)).map PyData.int = bag at B0
  obtain ⟨g, b1, e1, hg, hg1, hg2, k1⟩ := law_ground (n := 100000) (most := 4) (B0.mono (by decide)) (by omega) (by omega)
  obtain ⟨R, b2, e2, hRs, k2⟩ := law_roads (n := 99000) (k1.mono (by decide)) hg
  obtain ⟨row, b3, e3, hrow, hrl, k3⟩ := law_row (n := 98000) (most := 6) (k2.mono (by decide)) hg (by omega) (by omega)
  have hR := sub_roads (allRoads_ok hg) hRs
  obtain ⟨h, hs, rfl⟩ : ∃ h hs, row = h :: hs := by
    cases row with
    | nil => exact absurd hrow.1 (by simp)
    | cons h hs => exact ⟨h, hs, rfl⟩
  have hl10 := hrow.2.1
  have s25 := spots_25 hg
  have s1 : 0 < (spots g).length := List.length_pos_iff.mpr (spots_ne hg)
  obtain ⟨x0, ld⟩ := due_loop hg R (.bo b3) (pts (h :: hs)) (h :: hs) none [] (by simp; simp at hl10; omega)
  rw [List.nil_append] at ld
  have ld : loopGo (lpF (.nm 5) b_law_1 [5]) ((h :: hs).map pt) [.un, .bo b3, .d (pt g), .ol [], .d .none, .un, .un, .un, .un, .un, .d (rds R), .d (pts (h :: hs)), .un, .un] = _ := ld
  rw [List.map_cons] at ld
  have plen := pap_len g R (h :: hs) none
  obtain ⟨v, ebw, lv⟩ := best_way_eq hg hR hrow
  obtain ⟨A, eA1, eA2⟩ := pap_last (g := g) (R := R) hs h none
  obtain ⟨A', eA', hBest⟩ := best_row (g := g) (R := R) (h := h) (hs := hs)
  rw [eA1] at eA'
  cases eA'
  have hmin : minOver g A = vp v := min_best hg hBest lv
  have pbd := pap_bd hg (R := R) (h :: hs) none 0 hrow.2.2 (Int.le_refl 0) (fun A hA => by cases hA)
  -- the papers, row by row
  generalize hP : papA g R none (h :: hs) = As at *
  have hAs : As ≠ [] := by intro z; rw [z] at plen; cases plen
  have hlast : As.getLast hAs = A := by
    have := List.getLast?_eq_some_getLast hAs
    rw [eA2] at this
    exact (Option.some.inj this).symm
  have il := idx_lastT (linT g) As hAs
  rw [hlast] at il
  have ml := min_lin hg A
  rw [hmin] at ml
  have wp : F_way_paper [pt g, rds R, pts (h :: hs)] = some (.tuple (As.map (linT g))) := by rw [way_paper_eq hg hR hrow, hP]
  have sp := sane_paper hg As (by omega)
  have same1 : F__law_same [.tuple (As.map (linT g)), .tuple (As.map (linT g))] = some (.bool true) := by
    rw [law_same sp sp]; simp
  have bw2 : ∃ d, F_best_way [pt g, .tuple [], .tuple (cutL (pt h :: hs.map pt) none (some 1))] = some d := by
    have e : cutL (pt h :: hs.map pt) none (some 1) = [h].map pt := rfl
    obtain ⟨w, ew, _⟩ := best_way_eq (g := g) (R := []) (h := h) (hs := []) hg ⟨by simp, fun r hr => absurd hr List.not_mem_nil, rfl⟩ ⟨by simp, by simp, fun p hp => hrow.2.2 p (by rw [List.mem_singleton.mp hp]; exact List.mem_cons_self)⟩
    exact ⟨_, by rw [e]; exact ew⟩
  obtain ⟨d2, ebw2⟩ := bw2
  have sm1 : small 1 = true := by decide
  have sm2 : small 2 = true := by decide
  have sm14 : small 14 = true := by decide
  have cut2 : evCut (vD v) none (some 2) = some (pt (vp v)) := rfl
  have cu : ∀ (xs : List D) lo hi, evCut (.tuple xs) lo hi = some (.tuple (cutL xs lo hi)) := fun _ _ _ => rfl
  have tt : ∀ xs : List D, evFn .tuple (.list xs) = some (.tuple xs) := fun _ => rfl
  have ll : ∀ xs : List D, evFn .list (.tuple xs) = some (.list xs) := fun _ => rfl
  -- the loop of two turns
  have l2 : ∀ k : Nat, loopGo (lpF (.nm 7) b_law_2 [7]) ((List.range k).map fun (i : Nat) => PyData.int i) [.un, .bo b3, .d (pt g), .d (.tuple (As.map (linT g))), .d x0, .un, .d (pt (vp v)), .un, .un, .un, .d (rds R), .d (pts (h :: hs)), .un, .un] = some (.nx, [.un, .bo b3, .d (pt g), .d (.tuple (As.map (linT g))), .d x0, .un, .d (pt (vp v)), .un, .un, .un, .d (rds R), .d (pts (h :: hs)), .un, .un]) := by
    intro k
    have := loop_fold (f := lpF (.nm 7) b_law_2 [7]) (d := fun (i : Nat) => PyData.int i) (E := fun _ : Unit => [.un, .bo b3, .d (pt g), .d (.tuple (As.map (linT g))), .d x0, .un, .d (pt (vp v)), .un, .un, .un, .d (rds R), .d (pts (h :: hs)), .un, .un]) (s := fun _ _ => ()) (fun _ _ => True) (fun _ i _ _ => by
      refine ⟨?_, trivial⟩
      have nn : evCmp .ne (pt (vp v)) (pt (vp v)) = some false := by rw [ne_pt]; simp
      rw [lpF_eq]
      simp only [b_law_2, denSs, dS_asg, dS_asgO, dS_asgD, dS_asgT, dS_par, dS_app, dS_put, dS_ret, dS_ite, dS_exp, dS_setB, denT, denTs, dE_var, dE_glo, dE_int, dE_str, dE_bl, dE_non, dE_tup, dE_lst, dE_bin, dE_neg, dE_cmp, dE_chn, dE_and, dE_or, dE_nt, dE_ite, dE_call, dE_callB, dE_fn, dE_fn2, dE_max3, dE_isi, dE_idx, dE_cut, dE_step, dE_index, dE_oIdx, dE_oIn, dE_oGet, dE_oLen, dE_oCmp, dE_sortK, dE_lc, dE_lc2, dE_dc, denEs, denO, denIt, rdVar, isOwn, isOl, isOd, WM.storeAll, bindT, wipeE, backE, plainSlot, walked, items, truth, asInt, outOf, List.getElem?_cons_zero, List.getElem?_cons_succ, List.set_cons_zero, List.set_cons_succ, Option.bind_some, Option.map_some, List.map_cons, List.map_nil, List.all_cons, List.all_nil, Bool.and_true, Bool.true_and, if_true, Bool.false_eq_true, if_false, wp, same1, Bool.not_true, il, ml, nn, cu, sm1, ebw2]) (List.range k) () trivial
    exact this.1
  have r2 : rangeD 0 (Int.toNat 2) = (List.range 2).map fun (i : Nat) => PyData.int i := range0 2
  have r14 : rangeD 0 (Int.toNat 14) = (List.range 14).map fun (i : Nat) => PyData.int i := range0 14
  -- noughts
  have mul0 : evBin .mul (.tuple [.tuple [.int 0, .int 0]]) (.int (spots g).length) = some (.tuple (List.replicate (spots g).length [PyData.tuple [.int 0, .int 0]]).flatten) := by
    show (if [PyData.tuple [.int 0, .int 0]] ≠ [] ∧ (1 : Int) ≤ (spots g).length ∧ ((spots g).length : Int) ≤ 1000 ∧ ([PyData.tuple [.int 0, .int 0]] : List D).length ≤ 1000 then some (PyData.tuple (List.replicate ((spots g).length : Int).toNat [PyData.tuple [.int 0, .int 0]]).flatten) else none) = _
    rw [if_pos ⟨by simp, by omega, by omega, by decide⟩, Int.toNat_natCast]
  generalize hZ : PyData.tuple (List.replicate (spots g).length [PyData.tuple [.int 0, .int 0]]).flatten = Z at mul0
  have smZ : SmR Z := by
    rw [← hZ]
    intro xs e z hz
    cases e
    obtain ⟨l, hl, hz⟩ := List.mem_flatten.mp hz
    rw [List.eq_of_mem_replicate hl, List.mem_singleton] at hz
    rw [hz]
    exact sm2_pt (q := (0, 0)) rfl
  have lz : lcGo (lcF (.bin .mul (.tup (.cons (.tup (.cons (.int 0) (.cons (.int 0) .nil))) .nil)) (.fn .len (.var 13))) (.nm 13) .nil [13]) (As.map (linT g)) [.un, .bo b3, .d (pt g), .d (.tuple (As.map (linT g))), .d x0, .un, .d (pt (vp v)), .un, .un, .un, .d (rds R), .d (pts (h :: hs)), .un, .un] = some (As.map fun _ => Z, [.un, .bo b3, .d (pt g), .d (.tuple (As.map (linT g))), .d x0, .un, .d (pt (vp v)), .un, .un, .un, .d (rds R), .d (pts (h :: hs)), .un, .un]) :=
    lcGo_of _ fun A _ => by
      have ln : evFn .len (linT g A) = some (.int (spots g).length) := by unfold linT; rw [ev_lenT, List.length_map]
      simp only [lcF, denSs, dS_asg, dS_asgO, dS_asgD, dS_asgT, dS_par, dS_app, dS_put, dS_ret, dS_ite, dS_exp, dS_setB, denT, denTs, dE_var, dE_glo, dE_int, dE_str, dE_bl, dE_non, dE_tup, dE_lst, dE_bin, dE_neg, dE_cmp, dE_chn, dE_and, dE_or, dE_nt, dE_ite, dE_call, dE_callB, dE_fn, dE_fn2, dE_max3, dE_isi, dE_idx, dE_cut, dE_step, dE_index, dE_oIdx, dE_oIn, dE_oGet, dE_oLen, dE_oCmp, dE_sortK, dE_lc, dE_lc2, dE_dc, denEs, denO, denIt, rdVar, isOwn, isOl, isOd, WM.storeAll, bindT, wipeE, backE, plainSlot, walked, items, truth, asInt, outOf, List.getElem?_cons_zero, List.getElem?_cons_succ, List.set_cons_zero, List.set_cons_succ, Option.bind_some, Option.map_some, List.map_cons, List.map_nil, List.all_cons, List.all_nil, Bool.and_true, Bool.true_and, if_true, Bool.false_eq_true, if_false, ln, mul0]
  have Lz : lenOk (As.map fun _ => Z) = true := lenOk_map _ _ (by omega)
  -- bent papers
  obtain ⟨ys, ρ5, lb, hys, lys, hI⟩ := lcGo_all (d := fun (i : Nat) => PyData.int i) (f := lcF (.callB "_law_bent" F__law_bent 1 (.cons (.var 3) .nil)) (.nm 7) .nil [7])
    (fun zs ρ => ∃ b, ρ = [.un, .bo b, .d (pt g), .d (.tuple (As.map (linT g))), .d x0, .un, .d (pt (vp v)), .un, .d (.tuple (As.map fun _ => Z)), .un, .d (rds R), .d (pts (h :: hs)), .un, .un] ∧ BagOk (1000 + 4 * zs.length) b) SmP (by
      rintro x zs ρ ⟨b, rfl, hb⟩
      rw [List.length_cons] at hb
      obtain ⟨y, b', e, hy, k⟩ := law_bent_eq (n := 1000 + 4 * zs.length) (rows := As.map fun A => (spots g).map A) (hb.mono (by omega)) (by simpa using hAs) (by rw [List.length_map]; omega) (by
        intro ps hps
        obtain ⟨A, hA, rfl⟩ := List.mem_map.mp hps
        refine ⟨by simpa using spots_ne hg, by rw [List.length_map]; exact s25, fun q hq => ?_⟩
        obtain ⟨p, hp, rfl⟩ := List.mem_map.mp hq
        obtain ⟨c1, c2, c3, c4⟩ := pbd A hA p hp
        exact ⟨c1, by omega, c3, by omega⟩)
      have em : ((As.map fun A => (spots g).map A).map fun ps => PyData.tuple (ps.map pt)) = As.map (linT g) := by
        rw [List.map_map]
        refine List.map_congr_left fun A _ => ?_
        show PyData.tuple (((spots g).map A).map pt) = _
        rw [List.map_map]; rfl
      rw [em] at e
      exact ⟨y, [.un, .bo b', .d (pt g), .d (.tuple (As.map (linT g))), .d x0, .un, .d (pt (vp v)), .un, .d (.tuple (As.map fun _ => Z)), .un, .d (rds R), .d (pts (h :: hs)), .un, .un], by simp only [lcF, denSs, dS_asg, dS_asgO, dS_asgD, dS_asgT, dS_par, dS_app, dS_put, dS_ret, dS_ite, dS_exp, dS_setB, denT, denTs, dE_var, dE_glo, dE_int, dE_str, dE_bl, dE_non, dE_tup, dE_lst, dE_bin, dE_neg, dE_cmp, dE_chn, dE_and, dE_or, dE_nt, dE_ite, dE_call, dE_callB, dE_fn, dE_fn2, dE_max3, dE_isi, dE_idx, dE_cut, dE_step, dE_index, dE_oIdx, dE_oIn, dE_oGet, dE_oLen, dE_oCmp, dE_sortK, dE_lc, dE_lc2, dE_dc, denEs, denO, denIt, rdVar, isOwn, isOl, isOd, WM.storeAll, bindT, wipeE, backE, plainSlot, walked, items, truth, asInt, outOf, List.getElem?_cons_zero, List.getElem?_cons_succ, List.set_cons_zero, List.set_cons_succ, Option.bind_some, Option.map_some, List.map_cons, List.map_nil, List.all_cons, List.all_nil, Bool.and_true, Bool.true_and, if_true, Bool.false_eq_true, if_false, e], hy, b', rfl, k⟩) (List.range 14) [.un, .bo b3, .d (pt g), .d (.tuple (As.map (linT g))), .d x0, .un, .d (pt (vp v)), .un, .d (.tuple (As.map fun _ => Z)), .un, .d (rds R), .d (pts (h :: hs)), .un, .un] ⟨b3, rfl, k3.mono (by rw [List.length_range]; omega)⟩
  obtain ⟨b5, rfl, k5⟩ := hI
  rw [List.length_range] at lys
  have Ly : lenOk ys = true := decide_eq_true (by omega)
  -- what each thing shows
  have smDue : SmP (.tuple (As.map (linT g))) := by
    intro xs e d hd
    cases e
    obtain ⟨A, hA, rfl⟩ := List.mem_map.mp hd
    intro xs e z hz
    cases e
    obtain ⟨p, hp, rfl⟩ := List.mem_map.mp hz
    obtain ⟨c1, c2, c3, c4⟩ := pbd A hA p hp
    exact sm2_pt (q := A p) (inR_of (by omega) (by omega) (by omega) (by omega))
  have turn3 : ∀ (x : D) (b : List D), SmP x → lpF (.nm 9) b_law_3 [9, 12] x [.un, .bo b, .d (pt g), .d (.tuple (As.map (linT g))), .d x0, .un, .d (pt (vp v)), .un, .d (.tuple (As.map fun _ => Z)), .un, .d (rds R), .d (pts (h :: hs)), .un, .un] = some (.nx, [.un, .bo b, .d (pt g), .d (.tuple (As.map (linT g))), .d x0, .un, .d (pt (vp v)), .un, .d (.tuple (As.map fun _ => Z)), .un, .d (rds R), .d (pts (h :: hs)), .un, .un]) := by
    intro x b hx
    have e1 := law_shown_eq (R := R) hg hrow hx
    have e2 := way_shown_eq hg hR hrow x
    have sn := sane_showD g R (h :: hs) x
    have same2 : F__law_same [showD g R (h :: hs) x, showD g R (h :: hs) x] = some (.bool true) := by
      rw [law_same sn sn]; simp
    rw [lpF_eq]
    have cases3 : showD g R (h :: hs) x = .none ∨ ∃ q, showD g R (h :: hs) x = pt q ∧ DatumOrd.lt (vp v) q = false := by
      cases x with
      | tuple ds =>
        show (if ds.length = (h :: hs).length then endD g (shownM g R none (h :: hs) ds) else .none) = .none ∨ ∃ q, (if ds.length = (h :: hs).length then endD g (shownM g R none (h :: hs) ds) else .none) = pt q ∧ DatumOrd.lt (vp v) q = false
        by_cases hl : ds.length = (h :: hs).length
        · rw [if_pos hl]
          cases es : shownM g R none (h :: hs) ds with
          | none => exact .inl rfl
          | some o =>
            obtain ⟨B, rfl⟩ := shown_some es hl.symm (by simp)
            exact .inr ⟨_, rfl, min_below hg (shown_low hl.symm es) lv.1⟩
        · rw [if_neg hl]; exact .inl rfl
      | _ => exact .inl rfl
    rcases cases3 with e3 | ⟨q, e3, lq⟩
    · rw [e3] at e1 e2 same2
      have n1 : evCmp .isn .none .none = some false := rfl
      simp only [b_law_3, denSs, dS_asg, dS_asgO, dS_asgD, dS_asgT, dS_par, dS_app, dS_put, dS_ret, dS_ite, dS_exp, dS_setB, denT, denTs, dE_var, dE_glo, dE_int, dE_str, dE_bl, dE_non, dE_tup, dE_lst, dE_bin, dE_neg, dE_cmp, dE_chn, dE_and, dE_or, dE_nt, dE_ite, dE_call, dE_callB, dE_fn, dE_fn2, dE_max3, dE_isi, dE_idx, dE_cut, dE_step, dE_index, dE_oIdx, dE_oIn, dE_oGet, dE_oLen, dE_oCmp, dE_sortK, dE_lc, dE_lc2, dE_dc, denEs, denO, denIt, rdVar, isOwn, isOl, isOd, WM.storeAll, bindT, wipeE, backE, plainSlot, walked, items, truth, asInt, outOf, List.getElem?_cons_zero, List.getElem?_cons_succ, List.set_cons_zero, List.set_cons_succ, Option.bind_some, Option.map_some, List.map_cons, List.map_nil, List.all_cons, List.all_nil, Bool.and_true, Bool.true_and, if_true, Bool.false_eq_true, if_false, e1, e2, same2, Bool.not_true, n1]
    · rw [e3] at e1 e2 same2
      have n1 : evCmp .isn (pt q) .none = some true := rfl
      have g1 : evCmp .gt (pt q) (pt (vp v)) = some false := by rw [ev_gtP, lq]
      simp only [b_law_3, denSs, dS_asg, dS_asgO, dS_asgD, dS_asgT, dS_par, dS_app, dS_put, dS_ret, dS_ite, dS_exp, dS_setB, denT, denTs, dE_var, dE_glo, dE_int, dE_str, dE_bl, dE_non, dE_tup, dE_lst, dE_bin, dE_neg, dE_cmp, dE_chn, dE_and, dE_or, dE_nt, dE_ite, dE_call, dE_callB, dE_fn, dE_fn2, dE_max3, dE_isi, dE_idx, dE_cut, dE_step, dE_index, dE_oIdx, dE_oIn, dE_oGet, dE_oLen, dE_oCmp, dE_sortK, dE_lc, dE_lc2, dE_dc, denEs, denO, denIt, rdVar, isOwn, isOl, isOd, WM.storeAll, bindT, wipeE, backE, plainSlot, walked, items, truth, asInt, outOf, List.getElem?_cons_zero, List.getElem?_cons_succ, List.set_cons_zero, List.set_cons_succ, Option.bind_some, Option.map_some, List.map_cons, List.map_nil, List.all_cons, List.all_nil, Bool.and_true, Bool.true_and, if_true, Bool.false_eq_true, if_false, e1, e2, same2, Bool.not_true, n1, g1]
  have l3 : ∀ (xs : List D) (b : List D), (∀ x ∈ xs, SmP x) → loopGo (lpF (.nm 9) b_law_3 [9, 12]) xs [.un, .bo b, .d (pt g), .d (.tuple (As.map (linT g))), .d x0, .un, .d (pt (vp v)), .un, .d (.tuple (As.map fun _ => Z)), .un, .d (rds R), .d (pts (h :: hs)), .un, .un] = some (.nx, [.un, .bo b, .d (pt g), .d (.tuple (As.map (linT g))), .d x0, .un, .d (pt (vp v)), .un, .d (.tuple (As.map fun _ => Z)), .un, .d (rds R), .d (pts (h :: hs)), .un, .un]) := by
    intro xs
    induction xs with
    | nil => intro b _; rfl
    | cons x xs ih =>
      intro b hx
      simp only [loopGo]
      rw [turn3 x b (hx x List.mem_cons_self), Option.bind_some]
      exact ih b fun y hy => hx y (List.mem_cons_of_mem _ hy)
  have l3' := l3 ([.tuple (As.map (linT g)), .tuple (As.map fun _ => Z), .list (As.map (linT g)), .none, .tuple [], .int 7] ++ ys) b5 (by
    intro x hx
    rcases List.mem_append.mp hx with hx | hx
    · simp only [List.mem_cons, List.not_mem_nil, or_false] at hx
      rcases hx with rfl | rfl | rfl | rfl | rfl | rfl
      · exact smDue
      · intro xs e d hd
        cases e
        obtain ⟨_, _, rfl⟩ := List.mem_map.mp hd
        exact smZ
      · intro xs e; cases e
      · intro xs e; cases e
      · intro xs e d hd; cases e; cases hd
      · intro xs e; cases e
    · exact hys x hx)
  have ad : evBin .add (.list [.tuple (As.map (linT g)), .tuple (As.map fun _ => Z), .list (As.map (linT g)), .none, .tuple [], .int 7]) (.list ys) = some (.list ([.tuple (As.map (linT g)), .tuple (As.map fun _ => Z), .list (As.map (linT g)), .none, .tuple [], .int 7] ++ ys)) := ev_addL (by show 6 + ys.length ≤ _; omega)
  generalize hX : ([PyData.tuple (As.map (linT g)), .tuple (As.map fun _ => Z), .list (As.map (linT g)), .none, .tuple [], .int 7] ++ ys) = XS at l3' ad
  -- the told one
  have e6 := law_shown_eq (R := R) hg hrow smDue
  have sd : showD g R (h :: hs) (.tuple (As.map (linT g))) = pt (vp v) := by
    show (if (As.map (linT g)).length = (h :: hs).length then endD g (shownM g R none (h :: hs) (As.map (linT g))) else .none) = _
    rw [if_pos (by rw [List.length_map, plen])]
    obtain ⟨bb, eb, ab⟩ := shown_pap hg (R := R) (h :: hs) (o := none) (o' := none) trivial
    rw [hP] at eb
    rw [eA1] at ab
    cases bb with
    | none => exact absurd ab id
    | some C =>
      rw [eb]
      show pt (minOver g C) = _
      have : minOver g C = minOver g A := by
        unfold minOver
        congr 1
        exact List.map_congr_left fun p hp => (ab p hp).symm
      rw [this, hmin]
  rw [sd] at e6
  have nn : evCmp .ne (pt (vp v)) (pt (vp v)) = some false := by rw [ne_pt]; simp
  have be : bagEnv N_law.length 1 (wellI c (977 * i)) = [.un, .bo bag, .un, .un, .un, .un, .un, .un, .un, .un, .un, .un, .un, .un] := by rw [← hbag]; rfl
  rw [be]
  refine ⟨[.un, .bo b5, .d (pt g), .d (.tuple (As.map (linT g))), .d x0, .un, .d (pt (vp v)), .un, .d (.tuple (As.map fun _ => Z)), .un, .d (rds R), .d (pts (h :: hs)), .un, .un], ?_, rfl⟩
  simp only [il_law, denSs, dS_asg, dS_asgO, dS_asgD, dS_asgT, dS_par, dS_app, dS_put, dS_ret, dS_ite, dS_exp, dS_setB, denT, denTs, dE_var, dE_glo, dE_int, dE_str, dE_bl, dE_non, dE_tup, dE_lst, dE_bin, dE_neg, dE_cmp, dE_chn, dE_and, dE_or, dE_nt, dE_ite, dE_call, dE_callB, dE_fn, dE_fn2, dE_max3, dE_isi, dE_idx, dE_cut, dE_step, dE_index, dE_oIdx, dE_oIn, dE_oGet, dE_oLen, dE_oCmp, dE_sortK, dE_lc, dE_lc2, dE_dc, denEs, denO, denIt, rdVar, isOwn, isOl, isOd, WM.storeAll, bindT, wipeE, backE, plainSlot, walked, items, truth, asInt, outOf, List.getElem?_cons_zero, List.getElem?_cons_succ, List.set_cons_zero, List.set_cons_succ, Option.bind_some, Option.map_some, List.map_cons, List.map_nil, List.all_cons, List.all_nil, Bool.and_true, Bool.true_and, if_true, Bool.false_eq_true, if_false, dS_loop, e1, e2, e3, ld, tt, ebw, sm2, cut2, r2, l2, plainSlot, lz, Lz, ll, r14, sm14, lb, Ly, ad, l3', e6, nn]
end K04
set_option Elab.async false
set_option linter.all false
set_option maxRecDepth 100000


open PySem PySem.W PyProof.Rows
set_option maxHeartbeats 0 in
theorem PySem.Challenge.cw_walkmap_k04_whole_papers_of_ways_holds : PySem.Challenge.rw_walkmap_k04_whole_papers_of_ways.Holds := by
  w_on; o_law; k_head; (case hw => w_witness2)
  k_fill
  refine L2.walk_of (l := PySem.Challenge.rw_walkmap_k04_whole_papers_of_ways) (n := 63) (k := 9) (x := "script") (CX := fun _ => L2.CX0) (sp := fun w => WM.spLaw _) rfl (by decide) rfl ⟨rfl, by decide, by decide⟩ (fun w h Y => PySem.W.kIn_of Y) ?F (fun _ _ a ns hl _ hS => ⟨a, ns, rfl, hS, hl, fun _ => rfl⟩) (fun _ _ _ _ _ h => h)
  case F =>
    intro w mg fa h KX G hmg
    refine' K04.all_mk KX G hmg K04.maths ?a0 ?l0 ?c0 ?k0 ?a1 ?l1 ?c1 ?k1 ?a2 ?l2 ?c2 ?k2 ?a3 ?l3 ?c3 ?k3 ?a4 ?l4 ?c4 ?k4 ?a5 ?l5 ?c5 ?k5 ?a6 ?l6 ?c6 ?k6 ?a7 ?l7 ?c7 ?k7 ?a8 ?l8 ?c8 ?k8 ?a9 ?l9 ?c9 ?k9 ?a10 ?l10 ?c10 ?k10 ?a11 ?l11 ?c11 ?k11 ?a12 ?l12 ?c12 ?k12 ?a13 ?l13 ?c13 ?k13 ?a14 ?l14 ?c14 ?k14 ?a15 ?l15 ?c15 ?k15 ?a16 ?l16 ?c16 ?k16 ?a17 ?l17 ?c17 ?k17 ?a18 ?l18 ?c18 ?k18 ?a19 ?l19 ?c19 ?k19 ?a20 ?l20 ?c20 ?k20 ?a21 ?l21 ?c21 ?k21 ?a22 ?l22 ?c22 ?k22 ?a23 ?l23 ?c23 ?k23 ?a24 ?l24 ?c24 ?k24 ?a25 ?l25 ?c25 ?k25 ?a26 ?l26 ?c26 ?k26 ?a27 ?l27 ?c27 ?k27 ?a28 ?l28 ?c28 ?k28 ?a29 ?l29 ?c29 ?k29 ?a30 ?l30 ?c30 ?k30 ?a31 ?l31 ?c31 ?k31 ?a32 ?l32 ?c32 ?k32 ?a33 ?l33 ?c33 ?k33 ?a34 ?l34 ?c34 ?k34 ?a35 ?l35 ?c35 ?k35 ?a36 ?l36 ?c36 ?k36 ?b0 ?b1 ?b2 ?z0 ?z1 ?z2 ?z3 ?z4 ?z5 ?z6 ?z7 ?z8 ?z9 ?z10 ?z11 ?z12 ?z13 ?z14 ?z15 ?z16 ?z17 ?z18
    (case a0 => k_is); (case l0 => k_is); (case c0 => k_is); (case k0 => k_is); (case a1 => k_is); (case l1 => k_is); (case c1 => k_is); (case k1 => k_is); (case a2 => k_is); (case l2 => k_is); (case c2 => k_is); (case k2 => k_is); (case a3 => k_is); (case l3 => k_is); (case c3 => k_is); (case k3 => k_is); (case a4 => k_is); (case l4 => k_is); (case c4 => k_is); (case k4 => k_is); (case a5 => k_is); (case l5 => k_is); (case c5 => k_is); (case k5 => k_is); (case a6 => k_is); (case l6 => k_is); (case c6 => k_is); (case k6 => k_is); (case a7 => k_is); (case l7 => k_is); (case c7 => k_is); (case k7 => k_is); (case a8 => k_is); (case l8 => k_is); (case c8 => k_is); (case k8 => k_is); (case a9 => k_is); (case l9 => k_is); (case c9 => k_is); (case k9 => k_is); (case a10 => k_is); (case l10 => k_is); (case c10 => k_is); (case k10 => k_is); (case a11 => k_is); (case l11 => k_is); (case c11 => k_is); (case k11 => k_is); (case a12 => k_is); (case l12 => k_is); (case c12 => k_is); (case k12 => k_is); (case a13 => k_is); (case l13 => k_is); (case c13 => k_is); (case k13 => k_is); (case a14 => k_is); (case l14 => k_is); (case c14 => k_is); (case k14 => k_is); (case a15 => k_is); (case l15 => k_is); (case c15 => k_is); (case k15 => k_is); (case a16 => k_is); (case l16 => k_is); (case c16 => k_is); (case k16 => k_is); (case a17 => k_is); (case l17 => k_is); (case c17 => k_is); (case k17 => k_is); (case a18 => k_is); (case l18 => k_is); (case c18 => k_is); (case k18 => k_is); (case a19 => k_is); (case l19 => k_is); (case c19 => k_is); (case k19 => k_is); (case a20 => k_is); (case l20 => k_is); (case c20 => k_is); (case k20 => k_is); (case a21 => k_is); (case l21 => k_is); (case c21 => k_is); (case k21 => k_is); (case a22 => k_is); (case l22 => k_is); (case c22 => k_is); (case k22 => k_is); (case a23 => k_is); (case l23 => k_is); (case c23 => k_is); (case k23 => k_is); (case a24 => k_is); (case l24 => k_is); (case c24 => k_is); (case k24 => k_is); (case a25 => k_is); (case l25 => k_is); (case c25 => k_is); (case k25 => k_is); (case a26 => k_is); (case l26 => k_is); (case c26 => k_is); (case k26 => k_is); (case a27 => k_is); (case l27 => k_is); (case c27 => k_is); (case k27 => k_is); (case a28 => k_is); (case l28 => k_is); (case c28 => k_is); (case k28 => k_is); (case a29 => k_is); (case l29 => k_is); (case c29 => k_is); (case k29 => k_is); (case a30 => k_is); (case l30 => k_is); (case c30 => k_is); (case k30 => k_is); (case a31 => k_is); (case l31 => k_is); (case c31 => k_is); (case k31 => k_is); (case a32 => k_is); (case l32 => k_is); (case c32 => k_is); (case k32 => k_is); (case a33 => k_is); (case l33 => k_is); (case c33 => k_is); (case k33 => k_is); (case a34 => k_is); (case l34 => k_is); (case c34 => k_is); (case k34 => k_is); (case a35 => k_is); (case l35 => k_is); (case c35 => k_is); (case k35 => k_is); (case a36 => k_is); (case l36 => k_is); (case c36 => k_is); (case k36 => k_is); (case b0 => k_is); (case b1 => k_is); (case b2 => k_is); (case z0 => k_is); (case z1 => k_is); (case z2 => k_is); (case z3 => k_is); (case z4 => k_is); (case z5 => k_is); (case z6 => k_is); (case z7 => k_is); (case z8 => k_is); (case z9 => k_is); (case z10 => k_is); (case z11 => k_is); (case z12 => k_is); (case z13 => k_is); (case z14 => k_is); (case z15 => k_is); (case z16 => k_is); (case z17 => k_is); (case z18 => k_is)
